/- Of the proofs of YtbamklefagghcaaGreatDoor: PkInts PkBytes PkBld PkEdi PkOps6 PkEdi2 PkBld2 PkNest PkEdi3 PkTree PkTree2 PkTree3 PkEdi4 PkStr PkEdi5 PkOrd PkEdi7 PkOps7 PkEdi8 PkNum PkInv PkOps8 PkText PkInv2 PkEq PkTop PkBulk PkOrdT, put together. -/
import Derived.Test.YtbamklefagghcaaGreatDoorO1
import Derived.Lib.ConvBytes
import Derived.Laws.AppendOwn
import Derived.Lib.FrozenHead
import Derived.Lib.OthersKept
import Derived.Laws.Externs
import Derived.Lib.Builder
import Derived.Lib.AppendStr
import Derived.Laws.BytesArg
import Derived.Lib.ItoaLen
import Derived.Lib.SplitLaws
import Derived.Sort.Grow
import Derived.Laws.Runes
import Derived.Lib.AtoiAll
import Derived.Lib.ItoaNum
import Derived.Lib.IndexBytes
import Derived.Lib.IndexMore
import Derived.Laws.ResultCell
import Derived.Laws.StructEq
import Derived.ChangeKeysEq
/- Of the proofs of YtbamklefagghcaaGreatDoor; see NOTES.md. -/
/-! Rows of integers that the call has made, and bytes that were given. -/
namespace Go.PK
open Go Go.RowKit
set_option linter.unusedVariables false
theorem rowI_T {D : Nat → Prop} {ws : World} {r : RowS} {ds : List Int} {n : Nat} (hr : rowOK 1 r n (ds.map (Value.int .i64))) (hn : n = ds.length) (hin : ∀ d ∈ ds, in64 d) : RowT tyI D ws r ds := by
  subst hn
  refine ⟨ds.map fun d => [.int .i64 d], by simp, ?_, fun j h1 h2 => ?_⟩
  · have e : (ds.map fun d => [Value.int .i64 d]).flatten = ds.map (Value.int .i64) := by
      clear hr hin
      induction ds with
      | nil => rfl
      | cons x xs ih => simp [ih]
    rw [e]; exact hr
  · rw [List.getElem_map]
    exact ⟨rfl, hin _ (List.getElem_mem h2)⟩
theorem rowI_rd {D : Nat → Prop} {w : World} {own : List (Nat × Obj)} {ro : List Snap} {e : TypeId} {r : RowS} {ds : List Int} {n : Nat} (hr : rowOK 1 r n (ds.map (Value.int .i64))) (hn : n = ds.length) (hi : ∀ d ∈ ds, in64 d)
    (hm : Mem w own ro) (hin : ∀ p ∈ rowO e r, p ∈ own) (hD : ∀ p ∈ rowO e r, D p.1) : sliceRd tyI D w (rowV r n) ds :=
  (rowI_T (D := fun _ => False) (ws := w) hr hn hi).rd hm hin (fun _ h => h.elim) hD hn
theorem k_at {kk : IntKind} {D : Nat → Prop} {w : World} {A : Option Addr} {l c : Nat} {xs : List Int} (h : sliceRd (tyK kk) D w (.slice A l c) xs) {k : Nat} (hk : k < xs.length) :
    ∃ b off, A = some ⟨b, off, none⟩ ∧ D b ∧ w.cell? ⟨b, off + k, none⟩ = some (.int kk xs[k]) ∧ kk.min ≤ xs[k] ∧ xs[k] ≤ kk.max := by
  obtain ⟨A', c', e, h1, h2, h3⟩ := h
  injection e with e1 e2 e3
  obtain ⟨b, off, hA, hD, hb, hc⟩ := h3 (by omega)
  obtain ⟨cs, hcs, rfl, hok⟩ := hc k hk
  have := hcs 0 (by simp)
  exact ⟨b, off, e1.trans hA, hD, by simpa [tyK] using this, hok⟩
theorem u8_rng {x : Int} (h : IntKind.u8.min ≤ x ∧ x ≤ IntKind.u8.max) : 0 ≤ x ∧ x ≤ 255 := by
  have h1 : IntKind.u8.min = 0 := by decide
  have h2 : IntKind.u8.max = 255 := by decide
  omega
theorem u16_rng {x : Int} (h : IntKind.u16.min ≤ x ∧ x ≤ IntKind.u16.max) : 0 ≤ x ∧ x ≤ 65535 := by
  have h1 : IntKind.u16.min = 0 := by decide
  have h2 : IntKind.u16.max = 65535 := by decide
  omega
theorem calC_len {wk : List Bool} {v : Value} : (calC wk v).length = wk.length + 1 := by simp [calC]
theorem calC_set {wk : List Bool} {v : Value} {k : Nat} {b : Bool} (h : k < wk.length) : List.take k (calC wk v) ++ (Value.bool b).cells.toList ++ List.drop (k + 1) (calC wk v) = calC (wk.set k b) v := by
  show List.take k (calC wk v) ++ [Value.bool b] ++ List.drop (k + 1) (calC wk v) = _
  have e : (calC wk v).set k (.bool b) = calC (wk.set k b) v := by
    unfold calC
    rw [List.set_append_left _ _ (by simpa using h), List.map_set]
  rw [← e, List.set_eq_take_append_cons_drop, if_pos (by rw [calC_len]; omega)]
  simp
theorem calC_put {wk : List Bool} {v : Value} {r : RowS} {n : Nat} (h : wk.length = 7) : List.take 7 (calC wk v) ++ (rowV r n).cells.toList ++ List.drop (7 + 1) (calC wk v) = calC wk (rowV r n) := by
  show List.take 7 (calC wk v) ++ [rowV r n] ++ List.drop (7 + 1) (calC wk v) = _
  unfold calC
  rw [List.take_append_of_le_length (by simp [h]), List.take_of_length_le (by simp [h]), List.drop_eq_nil_of_le (by simp [h]), List.append_nil]
def bitU (u : Int) (k : Nat) : Bool := decide (andK .u8 (u / 2 ^ k) 1 = 1)
/-- The closed weekdays by bits: the first k of them. -/
def wkP (u : Int) (k : Nat) : List Bool := (List.range 7).map fun j => decide (j < k) && bitU u j
theorem wkP_len (u : Int) (k : Nat) : (wkP u k).length = 7 := by simp [wkP]
theorem wkP_set {u : Int} {k : Nat} (h : k < 7) : (wkP u k).set k (bitU u k) = wkP u (k + 1) := by
  apply List.ext_getElem (by simp [wkP])
  intro j h1 h2
  have hj : j < 7 := by simpa [wkP] using h2
  rw [List.getElem_set]
  simp only [wkP, List.getElem_map, List.getElem_range]
  split
  · rename_i e; subst e; simp
  · rename_i e
    have : decide (j < k + 1) = decide (j < k) := by rw [decide_eq_decide]; omega
    rw [this]
def wkOf (u : Int) : List Bool := wkP u 7
theorem wkOf_len (u : Int) : (wkOf u).length = 7 := wkP_len u 7
def madeD (near : Int) (l : List Int) : List Int := (l.take 20).map fun x => near.tmod 3000000 + x % 60 - 10
theorem madeD_len (near : Int) (l : List Int) : (madeD near l).length ≤ 20 := by simp [madeD]; omega
theorem madeD_in (near : Int) (l : List Int) : ∀ d ∈ madeD near l, -3000010 ≤ d ∧ d ≤ 3000050 := fun d hd => by
  obtain ⟨x, _, rfl⟩ := List.mem_map.1 hd
  have := tmod_bd near 3000000 (by decide)
  omega
theorem madeD_snoc {near : Int} {l : List Int} {k : Nat} (hk : k < l.length) (h : k < 20) : madeD near (l.take (k + 1)) = madeD near (l.take k) ++ [near.tmod 3000000 + l[k] % 60 - 10] := by
  unfold madeD
  rw [List.take_take, List.take_take, Nat.min_eq_right (by omega), Nat.min_eq_right (by omega), ← List.take_append_getElem hk, List.map_append]
  rfl
theorem madeD_all {near : Int} {l : List Int} {k : Nat} (h : k = l.length ∨ k = 20) : madeD near (l.take k) = madeD near l := by
  unfold madeD
  rw [List.take_take]
  rcases h with rfl | rfl
  · by_cases h : l.length ≤ 20
    · rw [Nat.min_eq_right h, List.take_of_length_le (Nat.le_refl _), List.take_of_length_le h]
    · rw [Nat.min_eq_left (by omega)]
  · rfl
end Go.PK

/- Of the proofs of YtbamklefagghcaaGreatDoor; see NOTES.md. -/
/-! Rows of bytes: conversions that mark a row, and stores into marked rows. -/
namespace Go.PK
open Go Go.RowKit
set_option linter.unusedVariables false
def byC (bs : List UInt8) : List Value := bs.map fun c => .int .u8 c.toNat
theorem byC_len (bs : List UInt8) : (byC bs).length = bs.length := by simp [byC]
theorem byC_at {bs : List UInt8} {j : Nat} (h : j < bs.length) : (byC bs)[j]? = some (.int .u8 bs[j].toNat) := by simp [byC, h]
theorem byC_set {bs : List UInt8} {k : Nat} {c : UInt8} (h : k < bs.length) : List.take k (byC bs) ++ (Value.int .u8 (c.toNat : Nat)).cells.toList ++ List.drop (k + 1) (byC bs) = byC (bs.set k c) := by
  show List.take k (byC bs) ++ [Value.int .u8 (c.toNat : Nat)] ++ List.drop (k + 1) (byC bs) = _
  have e : (byC bs).set k (.int .u8 (c.toNat : Nat)) = byC (bs.set k c) := by unfold byC; rw [List.map_set]
  rw [← e, List.set_eq_take_append_cons_drop, if_pos (by rw [byC_len]; exact h)]
  simp
theorem byC_one (bs : List UInt8) : (byC bs).all (fun u => u.oneCell') = true := by
  unfold byC
  rw [List.all_eq_true]
  intro u hu
  obtain ⟨c, _, rfl⟩ := List.mem_map.1 hu
  rfl
def u8of (z : Int) : UInt8 := UInt8.ofNat (z % 256).toNat
theorem u8of_wrap (z : Int) : IntKind.u8.wrap z = ((u8of z).toNat : Nat) := by
  unfold u8of
  rw [IntKind.wrap_u8, UInt8.toNat_ofNat_of_lt' (by show _ < 256; omega)]
  omega
theorem run_storeCells_T (P : Program) (g o : Nat) (t : TypeId) (fz : Nat × Nat) : ∀ (vs : List Value) (i : Nat) (cur : Array Value) (w : World), w.heap[g]? = some (.cells cur t fz) → o + i + vs.length ≤ fz.1 → o + i + vs.length ≤ cur.size → (∀ v ∈ vs, v.oneCell' = true) →
    (storeCells ⟨g, o, none⟩ vs i).run P w = .ok () (w.setRow g (cur.toList.take (o + i) ++ vs ++ cur.toList.drop (o + i + vs.length)).toArray)
  | [], i, cur, w, hg, _, _, _ => by
    simp only [storeCells, List.append_nil, List.length_nil, Nat.add_zero, List.take_append_drop, Array.toArray_toList]
    rw [setRow_self w g cur t fz hg]
    rfl
  | v :: rest, i, cur, w, hg, hfz, hl, h1 => by
    have hi : o + i < cur.size := by simp at hl; omega
    have hadd : (⟨g, o, none⟩ : Addr).add i = ⟨g, o + i, none⟩ := by unfold Addr.add; split <;> simp_all
    have hcell : w.cell? ⟨g, o + i, none⟩ = some cur[o + i] := by simp [World.cell?, hg, hi]
    have hfro : w.frozen? ⟨g, o + i, none⟩ = false := by
      obtain ⟨lo, hi'⟩ := fz
      simp only [World.frozen?, hg, Bool.and_eq_false_iff, decide_eq_false_iff_not]
      left
      simp only [List.length_cons] at hfz
      omega
    have hst : (store ((⟨g, o, none⟩ : Addr).add i) v).run P w = .ok () (w.setRow g (cur.setIfInBounds (o + i) v)) := by
      rw [hadd, run_store P w _ v _ (h1 v (by simp)), hcell]
      simp [hfro, setCell_eq_setRow w g (o + i) cur t fz v hg]
    have ih := run_storeCells_T P g o t fz rest (i + 1) (cur.setIfInBounds (o + i) v) (w.setRow g (cur.setIfInBounds (o + i) v)) (setRow_heap w g cur _ t _ hg) (by simp at hfz; omega) (by simp at hl ⊢; omega) (fun x hx => h1 x (by simp [hx]))
    simp only [storeCells, Sem.run_bind, hst, Result.andThen_ok, ih, setRow_setRow]
    congr 3
    have e := list_seg_step cur.toList (o + i) v rest (by simp at hl ⊢; omega)
    simpa [Array.toList_setIfInBounds, Nat.add_assoc] using e
theorem turned_setRowF {w : World} {g : Nat} {cs cs' : Array Value} {e : TypeId} {fz : Nat × Nat} (h : w.heap[g]? = some (.cells cs e fz)) : Turned w (w.setRow g cs') g (.cells cs' e fz) where
  os := rfl
  tape := rfl
  output := rfl
  size := by simp [World.setRow]
  at_ := setRow_heap w g cs cs' e fz h
  other := fun k hk => by
    simp only [World.setRow, Array.getElem?_modify]
    rw [if_neg (fun e => hk e.symm)]
section
variable {P : Program} {n : Nat} {l : List (Nat × Value)} {own : List (Nat × Obj)} {ro : List Snap} {lops : List Oper} {Q : Exit → Act → World → Prop} {K : Act → World → Prop}
  {rest : List (Option Bool × Nat)} {k : Option Bool} {i d : Nat} {ty t t' : TypeId} {pos : String} {af : Array Edge} {x y : Operand} {b off : Nat}
/-- A store into a row whose places are marked only behind it. -/
theorem x_storeT_core {o : Oper} {v : Value} {l1 l2 : List (Nat × Obj)} {cs : List Value} {e : TypeId} {m : Nat} {fz : Nat × Nat} (ho : lops[i]? = some o) (hgo : Go_ lops n l o) (hop : o.op = .store t x y) (hd0 : o.dst = none) (hx : ev l x = some (.pointer (some ⟨b, off, none⟩))) (hy : ev l y = some v)
    (hs : (P.info? t).map (·.size) = some m) (hm : (decide (v.cells.size = m) && v.cells.toList.all (fun u => u.oneCell')) = true) (hb : off + m ≤ cs.length) (hfz : off + m ≤ fz.1) (hown : own = l1 ++ (b, .cells cs.toArray e fz) :: l2)
    (h : WX P lops.toArray Q K rest n l (l1 ++ (b, .cells (cs.take off ++ v.cells.toList ++ cs.drop (off + m)).toArray e fz) :: l2) ro) : WX P lops.toArray Q K ((none, i) :: rest) n l own ro := by
  subst hown
  intro a w ha hw
  simp only [Bool.and_eq_true, decide_eq_true_eq, List.all_eq_true] at hm
  obtain ⟨hm, h1⟩ := hm
  have hw1 := hgo a ha
  simp only [wpX, List.getElem?_toArray, ho]
  intro w' hl
  rw [if_pos hw1]
  have hM := hw.later hl
  have hg : w'.heap[b]? = some (.cells cs.toArray e fz) := hM.own_at (b, _) (by simp)
  have hlen : v.cells.toList.length = m := by simpa using hm
  have hst := run_storeCells_T P b off e fz v.cells.toList 0 cs.toArray w' hg (by omega) (by simp only [List.size_toArray]; omega) h1
  have hst2 : (storeVar t ⟨b, off, none⟩ v).run P w' = .ok () (w'.setRow b (cs.take off ++ v.cells.toList ++ cs.drop (off + m)).toArray) := by
    simp only [storeVar, Sem.run_bind, run_sizeOf hs, Result.andThen_ok, hm, ne_eq, not_true, if_false, hst, Nat.add_zero, hlen]
  unfold Oper.wp
  have hrun : (execOp a.eval o).run P w' = .ok .skip (w'.setRow b (cs.take off ++ v.cells.toList ++ cs.drop (off + m)).toArray) := by
    simp only [execOp, hop, ha.eval hx, ha.eval hy, Instr.storeAt, Instr.sureAddr, Sem.run_bind, Sem.run_pure, Result.andThen_ok, hst2]
  rw [hrun]
  show wpX P lops.toArray Q K rest (a.put o.dst undef) _
  rw [hd0]
  exact h a _ ha (hM.turn (turned_setRowF hg))
theorem x_storeT {v : Value} (l1 : List (Nat × Obj)) {l2 : List (Nat × Obj)} {cs : List Value} {e : TypeId} {m : Nat} {fz : Nat × Nat} (ho : lops[i]? = some ⟨none, .store t x y, ty, pos, af, none⟩) (hx : ev l x = some (.pointer (some ⟨b, off, none⟩))) (hy : ev l y = some v)
    (hown : own = l1 ++ (b, .cells cs.toArray e fz) :: l2) (hs : (P.info? t).map (·.size) = some m) (hm : (decide (v.cells.size = m) && v.cells.toList.all (fun u => u.oneCell')) = true) (hb : off + m ≤ cs.length) (hfz : off + m ≤ fz.1)
    (h : WX P lops.toArray Q K rest n l (l1 ++ (b, .cells (cs.take off ++ v.cells.toList ++ cs.drop (off + m)).toArray e fz) :: l2) ro) : WX P lops.toArray Q K ((none, i) :: rest) n l own ro :=
  x_storeT_core ho (go_none rfl) rfl rfl hx hy hs hm hb hfz hown h
/-- '[]byte("..")' of a constant: the row that was written out is marked behind its end. -/
theorem x_mark {e : TypeId} {cs : List Value} (l1 : List (Nat × Obj)) {l2 : List (Nat × Obj)} {m c : Nat} {e' : TypeId} (ho : lops[i]? = some ⟨some d, .convert t t x, ty, pos, af, none⟩) (hd : decide (d < n) = true)
    (ht : P.underlying t = some (.slice e)) (he : P.underlying e = some (.int .u8)) (hx : ev l x = some (.slice (some ⟨b, off, none⟩) m c)) (hown : own = l1 ++ (b, .cells cs.toArray e' (0, 0)) :: l2)
    (h : WX P lops.toArray Q K rest n ((d, .slice (some ⟨b, off, none⟩) m c) :: l) (l1 ++ (b, .cells cs.toArray e' (cs.length, cs.length + 1)) :: l2) ro) : WX P lops.toArray Q K ((none, i) :: rest) n l own ro := by
  subst hown
  intro a w ha hw
  have hd' : d < n := of_decide_eq_true hd
  have hw1 := go_none (lops := lops) (n := n) (l := l) (o := ⟨some d, .convert t t x, ty, pos, af, none⟩) rfl a ha
  simp only [wpX, List.getElem?_toArray, ho]
  intro w' hl
  rw [if_pos hw1]
  have hM := hw.later hl
  have hg : w'.heap[b]? = some (.cells cs.toArray e' (0, 0)) := hM.own_at (b, _) (by simp)
  have hsh : w'.shape? b = some (e', cs.length) := by simp [World.shape?, hg]
  have hT : Turned w' (w'.freeze ⟨b, cs.length, none⟩ 1) b (.cells cs.toArray e' (cs.length, cs.length + 1)) := by
    unfold World.freeze
    rw [if_neg (by decide)]
    refine ⟨rfl, rfl, rfl, by simp, ?_, fun q hq => ?_⟩
    · show (w'.heap.modify b _)[b]? = _
      rw [Array.getElem?_modify, if_pos rfl, hg]
      rfl
    · show (w'.heap.modify b _)[q]? = _
      rw [Array.getElem?_modify, if_neg (fun e => hq e.symm)]
  have hrun : (execOp a.eval ⟨some d, .convert t t x, ty, pos, af, none⟩).run P w' = .ok (.value (.slice (some ⟨b, off, none⟩) m c)) (w'.freeze ⟨b, cs.length, none⟩ 1) := by
    simp [execOp, ha.eval hx, convert, run_underlying ht, run_underlying he, markStringish, hsh]
  unfold Oper.wp
  rw [hrun]
  exact h _ _ (ha.put _ hd') (hM.turn hT)
/-- '[]byte(s)': a new row, marked behind its end. -/
theorem x_bytes {e : TypeId} {s : ByteArray} {u : TypeDesc} (ho : lops[i]? = some ⟨some d, .convert t t' x, ty, pos, af, none⟩) (hk : (k == some true) = false) (hd : decide (d < n) = true)
    (hs : P.underlying t = some u) (hd2 : P.underlying t' = some (.slice e)) (he : P.underlying e = some (.int .u8)) (hx : ev l x = some (.string s))
    (h : ∀ b cp (cs : List Value) fz, s.size ≤ cp → cs.take s.size = byC s.data.toList → WX P lops.toArray Q K rest n ((d, .slice (some ⟨b, 0, none⟩) s.size cp) :: l) ((b, .cells cs.toArray e fz) :: own) ro) : WX P lops.toArray Q K ((k, i) :: rest) n l own ro := by
  intro a w ha hw
  have hd' : d < n := of_decide_eq_true hd
  have hw1 := go_none (lops := lops) (n := n) (l := l) (o := ⟨some d, .convert t t' x, ty, pos, af, none⟩) rfl a ha
  simp only [wpX, List.getElem?_toArray, ho]
  have hlat : ∀ w', Later w' (Lib.bytesWorld w' e s) := fun w' => ⟨rfl, rfl, rfl, by rw [Lib.bytesWorld_size]; omega, fun j hj => Lib.bytesWorld_at_old w' e s j hj⟩
  have hrun : ∀ w', (execOp a.eval ⟨some d, .convert t t' x, ty, pos, af, none⟩).run P w' = .ok (.value (.slice (some ⟨w'.heap.size, 0, none⟩) s.size (grownCap w' s.size 0 e))) (Lib.bytesWorld w' e s) := fun w' => by
    simp [execOp, ha.eval hx, Lib.run_convert_string_bytes w' t t' e s hs hd2 he]
  have key : ∀ w', Later w w' → wpX P lops.toArray Q K rest (a.put (some d) (.slice (some ⟨w'.heap.size, 0, none⟩) s.size (grownCap w' s.size 0 e))) (Lib.bytesWorld w' e s) := fun w' hl => by
    have hM := hw.later hl
    refine h _ _ (Lib.bytesCells w' e s).toList ((Lib.bytesCells w' e s).size, (Lib.bytesCells w' e s).size + 1) (grownCap_ge _ _ _ _) ?_ _ _ (ha.put _ hd') ?_
    · unfold Lib.bytesCells byC
      have : (s.data.map fun b => Value.int .u8 b.toNat).toList.length = s.size := by simp
      rw [Array.toList_append, ← this, List.take_left]
      simp
    · have hl2 := hlat w'
      have h2 := hM.later hl2
      refine ⟨fun p hp => ?_, ?_, h2.ro_st, h2.ro_at, fun p hp s' hs' hdd => ?_⟩
      · rcases List.mem_cons.1 hp with rfl | hp
        · simpa using Lib.bytesWorld_at_new w' e s
        · exact h2.own_at p hp
      · simp only [List.map_cons, List.nodup_cons]
        refine ⟨fun hm => ?_, h2.own_nd⟩
        obtain ⟨p, hp, he'⟩ := List.mem_map.1 hm
        have := hM.lt hp
        omega
      · rcases List.mem_cons.1 hp with rfl | hp
        · exact (hM.ro_st s' hs').2.2.2
        · exact h2.apart p hp s' hs' hdd
  cases k with
  | none =>
    intro w' hl
    rw [if_pos hw1]
    unfold Oper.wp
    rw [hrun]
    exact key w' hl
  | some b0 =>
    have : b0 = false := by cases b0 <;> simp_all
    subst this
    dsimp only
    rw [if_pos hw1]
    intro w' hl
    unfold Oper.wp
    rw [hrun]
    exact ⟨hlat w', key w' hl⟩
end
end Go.PK

/- Of the proofs of YtbamklefagghcaaGreatDoor; see NOTES.md. -/
/-! A strings.Builder of the call's own: the shelf's contracts, said of memory. -/
namespace Go.PK
open Go Go.RowKit
set_option linter.unusedVariables false
/-- The builder's pointer to itself, its slice, and the row behind it. -/
structure BS where
  pp : Value
  v : Value
  o : List (Nat × Obj)
def bld (T : TypeId) (b : Nat) (x : BS) : List (Nat × Obj) := (b, .cells #[x.pp, x.v] T (0, 0)) :: x.o
structure BOK (e : TypeId) (B b : Nat) (l : List UInt8) (x : BS) : Prop where
  le : B ≤ b
  pp : x.pp = .pointer none ∨ x.pp = .pointer (some ⟨b, 0, none⟩)
  row : (x.v = .slice none 0 0 ∧ l = [] ∧ x.o = []) ∨ ∃ g cap cur fz, x.v = .slice (some ⟨g, 0, none⟩) l.length cap ∧ x.o = [(g, .cells cur e fz)] ∧ B ≤ g ∧ fz.2 ≤ l.length ∧ l.length ≤ cap ∧ cap ≤ maxLen ∧ cur.size = cap ∧ cur.toList.take l.length = byC l
theorem BOK.new {e : TypeId} {B b : Nat} (h : B ≤ b) : BOK e B b [] ⟨.pointer none, .slice none 0 0, []⟩ := ⟨h, .inl rfl, .inl ⟨rfl, rfl, rfl⟩⟩
section
variable {T e : TypeId} {B b : Nat} {l : List UInt8} {x : BS} {w w' : World} {l2 : List (Nat × Obj)} {ro : List Snap}
theorem BOK.is (h : BOK e B b l x) (hm : Mem w (bld T b x ++ l2) ro) : Lib.IsBuilderF T e B b (byC l) w := by
  have hb : w.heap[b]? = some (.cells #[x.pp, x.v] T (0, 0)) := hm.own_at (b, _) (by simp [bld])
  have key : w.ownsRowF B e 1 x.v (byC l).length (byC l) ∧ x.v.ownBlock ≠ some b := by
    rw [byC_len]
    rcases h.row with ⟨h1, rfl, h3⟩ | ⟨g, cap, cur, fz, h1, h3, h4, h5, h6, h7, h8, h9⟩
    · rw [h1]; exact ⟨World.ownsRowF_nil .., by simp [Value.ownBlock]⟩
    · have hg : w.heap[g]? = some (.cells cur e fz) := hm.own_at (g, _) (by simp [bld, h3])
      refine ⟨⟨by rw [byC_len, Nat.mul_one], .inr ⟨g, cap, cur, fz, h1, h4, hg, by omega, h6, h7, by omega, by rw [Nat.mul_one]; exact h9⟩⟩, ?_⟩
      rw [h1]
      simp only [Value.ownBlock]
      intro he
      have hnd := hm.own_nd
      simp only [bld, h3, List.cons_append, List.nil_append, List.map_cons, List.nodup_cons] at hnd
      exact hnd.1 (by simp at he; simp [he])
  rcases h.pp with hp | hp
  · exact .inl ⟨h.le, x.v, by rw [← hp]; exact hb, key⟩
  · exact .inr ⟨h.le, x.v, by rw [← hp]; exact hb, key⟩
/-- A step of the builder: what is below B is as it was. -/
theorem BOK.step {p : Value} {l' : List UInt8} (hp : p = .pointer none ∨ p = .pointer (some ⟨b, 0, none⟩)) (hm : Mem w (bld T b x ++ l2) ro) (hB : ∀ s ∈ ro, s.1.heap.size ≤ B) (h2 : ∀ q ∈ l2, q.1 < B)
    (hA : Lib.BuilderAtF T e B b p (byC l') w') (hl : Below B w w') : ∃ x', BOK e B b l' x' ∧ Mem w' (bld T b x' ++ l2) ro := by
  obtain ⟨hb1, v, hb, ho, hne⟩ := hA
  have rest : ∀ o : List (Nat × Obj), (∀ q ∈ o, w'.heap[q.1]? = some q.2) → (o.map (·.1)).Nodup → (∀ q ∈ o, B ≤ q.1 ∧ q.1 ≠ b) → Mem w' (bld T b ⟨p, v, o⟩ ++ l2) ro := fun o h1 h3 h4 => by
    have hl2 : ∀ q ∈ l2, q ∈ bld T b x ++ l2 := fun q hq => List.mem_append_right _ hq
    refine ⟨fun q hq => ?_, ?_, fun s hs => ?_, fun s hs k hk hlt => ?_, fun q hq s hs hd => ?_⟩
    · simp only [bld, List.cons_append, List.mem_cons, List.mem_append] at hq
      rcases hq with rfl | hq | hq
      · exact hb
      · exact h1 q hq
      · exact (hl.block q.1 (h2 q hq)).trans (hm.own_at q (hl2 q hq))
    · have hnd2 : (l2.map (·.1)).Nodup := by
        have := hm.own_nd
        rw [List.map_append, List.nodup_append] at this
        exact this.2.1
      simp only [bld, List.cons_append, List.map_cons, List.map_append, List.nodup_cons, List.nodup_append, List.mem_append]
      refine ⟨fun hx => ?_, h3, hnd2, fun a ha c hc => ?_⟩
      · rcases hx with hx | hx
        · obtain ⟨q, hq, he⟩ := List.mem_map.1 hx
          exact (h4 q hq).2 he
        · obtain ⟨q, hq, he⟩ := List.mem_map.1 hx
          have := h2 q hq; omega
      · obtain ⟨q, hq, rfl⟩ := List.mem_map.1 ha
        obtain ⟨q2, hq2, rfl⟩ := List.mem_map.1 hc
        have := (h4 q hq).1; have := h2 q2 hq2; omega
    · obtain ⟨a, c, d, f⟩ := hm.ro_st s hs
      exact ⟨hl.os.trans a, hl.tape.trans c, hl.output.trans d, Nat.le_trans f hl.size⟩
    · exact (hl.block k (Nat.lt_of_lt_of_le hlt (hB s hs))).trans (hm.ro_at s hs k hk hlt)
    · simp only [bld, List.cons_append, List.mem_cons, List.mem_append] at hq
      rcases hq with rfl | hq | hq
      · exact Nat.le_trans (hB s hs) hb1
      · exact Nat.le_trans (hB s hs) (h4 q hq).1
      · exact hm.apart q (hl2 q hq) s hs hd
  rw [byC_len] at ho
  rcases ho.2 with ⟨rfl, hn⟩ | ⟨g, cap, cur, fz, rfl, hg1, hg, hfz, hnc, hcm, hcs, htk⟩
  · exact ⟨⟨p, .slice none 0 0, []⟩, ⟨hb1, hp, .inl ⟨rfl, List.eq_nil_of_length_eq_zero hn, rfl⟩⟩, rest [] (by simp) (by simp) (by simp)⟩
  · refine ⟨⟨p, .slice (some ⟨g, 0, none⟩) l'.length cap, [(g, .cells cur e fz)]⟩, ⟨hb1, hp, .inr ⟨g, cap, cur, fz, rfl, rfl, hg1, by omega, hnc, hcm, by omega, by rw [Nat.mul_one] at htk; exact htk⟩⟩, rest _ (fun q hq => by rw [List.mem_singleton.1 hq]; exact hg) (by simp) (fun q hq => ?_)⟩
    rw [List.mem_singleton.1 hq]
    exact ⟨hg1, fun he => hne (congrArg some he)⟩
/-- What lies below B alone. -/
theorem Mem.belowB (hm : Mem w (bld T b x ++ l2) ro) (hB : ∀ s ∈ ro, s.1.heap.size ≤ B) (h2 : ∀ q ∈ l2, q.1 < B) (hl : Below B w w') : Mem w' l2 ro := by
  have hl2 : ∀ q ∈ l2, q ∈ bld T b x ++ l2 := fun q hq => List.mem_append_right _ hq
  refine ⟨fun q hq => (hl.block q.1 (h2 q hq)).trans (hm.own_at q (hl2 q hq)), ?_, fun s hs => ?_, fun s hs k hk hlt => (hl.block k (Nat.lt_of_lt_of_le hlt (hB s hs))).trans (hm.ro_at s hs k hk hlt), fun q hq s hs hd => hm.apart q (hl2 q hq) s hs hd⟩
  · have := hm.own_nd
    rw [List.map_append, List.nodup_append] at this
    exact this.2.1
  · obtain ⟨a, c, d, f⟩ := hm.ro_st s hs
    exact ⟨hl.os.trans a, hl.tape.trans c, hl.output.trans d, Nat.le_trans f hl.size⟩
end
theorem byC_snoc (l : List UInt8) (c : UInt8) : byC (l ++ [c]) = byC l ++ [.int .u8 (c.toNat : Nat)] := by simp [byC]
theorem byC_app (a b : List UInt8) : byC (a ++ b) = byC a ++ byC b := by simp [byC]
theorem byC_bytes (l : List UInt8) : byC l = Lib.byteCells l := rfl
end Go.PK

/- Of the proofs of YtbamklefagghcaaGreatDoor; see NOTES.md. -/
/-! Messages: the plain functions of chapter 22 (reading). -/
namespace Go.PK
open Go Go.RowKit
set_option linter.unusedVariables false
structure Sg where
  c : UInt8
  e : UInt8
  r : UInt8
  n : UInt8
deriving DecidableEq
def Sg.cells (g : Sg) : List Value := [.int .u8 g.c.toNat, .int .u8 g.e.toNat, .int .u8 g.r.toNat, .int .u8 g.n.toNat]
def msgC (g : Sg) (s : ByteArray) (a : Nat) : List Value := [.int .u8 g.c.toNat, .int .u8 g.e.toNat, .int .u8 g.r.toNat, .int .u8 g.n.toNat, .string s, .int .i64 (a : Nat)]
def blankB (c : UInt8) : Bool := decide (c = 10) || decide (c = 13) || decide (c = 32)
theorem u8_lit {c k : UInt8} : (((c.toNat : Nat) : Int) = ((k.toNat : Nat) : Int)) ↔ c = k := by
  constructor
  · intro h; exact UInt8.toNat_inj.1 (by omega)
  · rintro rfl; rfl
theorem blank_iff (c : UInt8) : blankB c = true ↔ (((c.toNat : Nat) : Int) = 10 ∨ ((c.toNat : Nat) : Int) = 13) ∨ ((c.toNat : Nat) : Int) = 32 := by
  have h1 : (((c.toNat : Nat) : Int) = 10) ↔ c = 10 := u8_lit (k := 10)
  have h2 : (((c.toNat : Nat) : Int) = 13) ↔ c = 13 := u8_lit (k := 13)
  have h3 : (((c.toNat : Nat) : Int) = 32) ↔ c = 32 := u8_lit (k := 32)
  rw [h1, h2, h3]; simp [blankB]
def skipF (s : ByteArray) : Nat → Nat → Nat
  | 0, a => a
  | f + 1, a => if a < s.size ∧ blankB (byteAt s a) = true then skipF s f (a + 1) else a
def skipP (s : ByteArray) (a : Nat) : Nat := skipF s (s.size - a) a
theorem skip_go {s : ByteArray} {a : Nat} (h : a < s.size) (hb : blankB (byteAt s a) = true) : skipP s a = skipP s (a + 1) := by
  unfold skipP
  rw [show s.size - a = (s.size - (a + 1)) + 1 by omega]
  show (if a < s.size ∧ blankB (byteAt s a) = true then _ else _) = _
  rw [if_pos ⟨h, hb⟩]
theorem skip_stop {s : ByteArray} {a : Nat} (h : ¬(a < s.size ∧ blankB (byteAt s a) = true)) : skipP s a = a := by
  unfold skipP
  cases hf : s.size - a with
  | zero => rfl
  | succ f => show (if a < s.size ∧ blankB (byteAt s a) = true then _ else _) = _; rw [if_neg h]
theorem skipF_rng (s : ByteArray) : ∀ f a, a ≤ s.size → a ≤ skipF s f a ∧ skipF s f a ≤ s.size
  | 0, a, h => ⟨Nat.le_refl _, h⟩
  | f + 1, a, h => by
    show a ≤ (if a < s.size ∧ blankB (byteAt s a) = true then skipF s f (a + 1) else a) ∧ (if a < s.size ∧ blankB (byteAt s a) = true then skipF s f (a + 1) else a) ≤ s.size
    split
    · rename_i hc
      have := skipF_rng s f (a + 1) (by omega)
      omega
    · exact ⟨Nat.le_refl _, h⟩
theorem skip_rng {s : ByteArray} {a : Nat} (h : a ≤ s.size) : a ≤ skipP s a ∧ skipP s a ≤ s.size := skipF_rng s _ a h
theorem skip_skip {s : ByteArray} : ∀ (d a : Nat), s.size - a = d → skipP s (skipP s a) = skipP s a
  | 0, a, h => by rw [skip_stop (a := a) (by omega)]; exact skip_stop (by omega)
  | d + 1, a, h => by
    by_cases hb : a < s.size ∧ blankB (byteAt s a) = true
    · rw [skip_go hb.1 hb.2]; exact skip_skip d (a + 1) (by omega)
    · rw [skip_stop hb, skip_stop hb]
def capB (c : UInt8) : Bool := decide (65 ≤ c.toNat ∧ c.toNat ≤ 90)
def allCap (t : ByteArray) : Prop := ∀ j, j < t.size → capB (byteAt t j) = true
instance (t : ByteArray) : Decidable (allCap t) := by unfold allCap; infer_instance
abbrev TagR := (ByteArray × Int × Int) × Nat
def tagAt (s : ByteArray) (a : Nat) : ByteArray := s.extract a (min (a + 3) s.size)
theorem tagAt_size {s : ByteArray} {a : Nat} (h : a ≤ s.size) : (tagAt s a).size = min 3 (s.size - a) := by
  unfold tagAt; rw [ByteArray.size_extract]; omega
theorem tagAt_byte {s : ByteArray} {a j : Nat} (h : a ≤ s.size) (hj : j < (tagAt s a).size) : byteAt (tagAt s a) j = byteAt s (a + j) := by
  rw [tagAt_size h] at hj
  exact byteAt_extract (by omega) (by omega)
def tagR (s : ByteArray) (g : Sg) (a : Nat) : TagR :=
  if ¬ allCap (tagAt s a) then ((⟨#[]⟩, ((a : Nat) : Int), 40), a)
  else if (tagAt s a).size < 3 ∨ a + (tagAt s a).size = s.size then ((⟨#[]⟩, ((s.size : Nat) : Int), 10), a + (tagAt s a).size)
  else if byteAt s (a + (tagAt s a).size) ≠ g.e ∧ byteAt s (a + (tagAt s a).size) ≠ g.n then ((⟨#[]⟩, ((a + (tagAt s a).size : Nat) : Int), 40), a + (tagAt s a).size)
  else ((tagAt s a, 0, 0), a + (tagAt s a).size)
abbrev PieceR := Option (List UInt8 × UInt8 × Nat)
def pieceF (s : ByteArray) (g : Sg) : Nat → Nat → List UInt8 → PieceR
  | 0, _, _ => none
  | f + 1, a, b =>
    if a < s.size then
      if byteAt s a = g.c ∨ byteAt s a = g.e ∨ byteAt s a = g.n then some (b, byteAt s a, a + 1)
      else if byteAt s a = g.r then (if a + 1 = s.size then none else pieceF s g f (a + 2) (b ++ [byteAt s (a + 1)]))
      else pieceF s g f (a + 1) (b ++ [byteAt s a])
    else none
theorem pieceF_more (s : ByteArray) (g : Sg) : ∀ (f a : Nat) (b : List UInt8), s.size - a < f → pieceF s g f a b = pieceF s g (f + 1) a b
  | 0, _, _, h => by omega
  | f + 1, a, b, h => by
    by_cases ha : a < s.size
    · rw [pieceF, pieceF, if_pos ha, if_pos ha]
      split
      · rfl
      · split
        · split
          · rfl
          · exact pieceF_more s g f _ _ (by omega)
        · exact pieceF_more s g f _ _ (by omega)
    · rw [pieceF, pieceF, if_neg ha, if_neg ha]
theorem pieceF_all (s : ByteArray) (g : Sg) {f a : Nat} {b : List UInt8} (h : s.size - a < f) : ∀ d, pieceF s g f a b = pieceF s g (f + d) a b
  | 0 => rfl
  | d + 1 => by rw [pieceF_all s g h d, ← Nat.add_assoc]; exact pieceF_more s g _ _ _ (by omega)
def pieceP (s : ByteArray) (g : Sg) (a : Nat) (b : List UInt8) : PieceR := pieceF s g (s.size + 1) a b
theorem piece_eq (s : ByteArray) (g : Sg) (a : Nat) (b : List UInt8) : pieceP s g a b =
    if a < s.size then
      if byteAt s a = g.c ∨ byteAt s a = g.e ∨ byteAt s a = g.n then some (b, byteAt s a, a + 1)
      else if byteAt s a = g.r then (if a + 1 = s.size then none else pieceP s g (a + 2) (b ++ [byteAt s (a + 1)]))
      else pieceP s g (a + 1) (b ++ [byteAt s a])
    else none := by
  by_cases ha : a < s.size
  · unfold pieceP
    rw [pieceF, if_pos ha, if_pos ha]
    have k : ∀ x b', a < x → pieceF s g s.size x b' = pieceF s g (s.size + 1) x b' := fun x b' hx => pieceF_more s g _ _ _ (by omega)
    rw [k (a + 2) _ (by omega), k (a + 1) _ (by omega)]
  · unfold pieceP; rw [pieceF, if_neg ha, if_neg ha]
theorem pieceF_adv (s : ByteArray) (g : Sg) : ∀ (f a : Nat) (b : List UInt8) {t : List UInt8} {c : UInt8} {a' : Nat}, pieceF s g f a b = some (t, c, a') → a < a' ∧ a' ≤ s.size ∧ t.length ≤ b.length + (a' - a) ∧ (c = g.c ∨ c = g.e ∨ c = g.n)
  | 0, _, _, _, _, _, h => by simp [pieceF] at h
  | f + 1, a, b, t, c, a', h => by
    rw [pieceF] at h
    split at h
    · rename_i ha
      split at h
      · rename_i hc
        simp only [Option.some.injEq, Prod.mk.injEq] at h
        obtain ⟨rfl, rfl, rfl⟩ := h
        exact ⟨by omega, by omega, by omega, hc⟩
      · split at h
        · split at h
          · cases h
          · obtain ⟨h1, h2, h3, h4⟩ := pieceF_adv s g f _ _ h
            simp only [List.length_append, List.length_singleton] at h3
            exact ⟨by omega, h2, by omega, h4⟩
        · obtain ⟨h1, h2, h3, h4⟩ := pieceF_adv s g f _ _ h
          simp only [List.length_append, List.length_singleton] at h3
          exact ⟨by omega, h2, by omega, h4⟩
    · cases h
theorem piece_adv {s : ByteArray} {g : Sg} {a a' : Nat} {b t : List UInt8} {c : UInt8} (h : pieceP s g a b = some (t, c, a')) : a < a' ∧ a' ≤ s.size ∧ t.length ≤ b.length + (a' - a) ∧ (c = g.c ∨ c = g.e ∨ c = g.n) := pieceF_adv s g _ _ _ h
def addLast (out : List (List ByteArray)) (t : ByteArray) : List (List ByteArray) := match out.getLast? with | some y => out.dropLast ++ [y ++ [t]] | none => out
theorem addLast_snoc (ys : List (List ByteArray)) (y : List ByteArray) (t : ByteArray) : addLast (ys ++ [y]) t = ys ++ [y ++ [t]] := by simp [addLast]
abbrev ElR := Option (List (List ByteArray) × Nat)
def newEl (g : Sg) (c : UInt8) (out : List (List ByteArray)) : List (List ByteArray) := if c = g.e then out ++ [[]] else out
def elF (s : ByteArray) (g : Sg) : Nat → UInt8 → Nat → List (List ByteArray) → ElR
  | 0, _, _, _ => none
  | f + 1, c, a, out =>
    if c = g.n then some (out, a)
    else match pieceP s g a [] with
      | none => none
      | some (t, c', a') => elF s g f c' a' (addLast (newEl g c out) ⟨t.toArray⟩)
theorem elF_more (s : ByteArray) (g : Sg) : ∀ (f a : Nat) (c : UInt8) (out : List (List ByteArray)), a ≤ s.size → s.size - a < f → elF s g f c a out = elF s g (f + 1) c a out
  | 0, _, _, _, _, h => by omega
  | f + 1, a, c, out, ha, h => by
    rw [elF, elF]
    split
    · rfl
    · cases hp : pieceP s g a [] with
      | none => rfl
      | some x =>
        obtain ⟨t, c', a'⟩ := x
        obtain ⟨h1, h2, _⟩ := piece_adv hp
        exact elF_more s g f a' c' _ h2 (by omega)
def elP (s : ByteArray) (g : Sg) (c : UInt8) (a : Nat) (out : List (List ByteArray)) : ElR := elF s g (s.size + 1) c a out
theorem el_eq (s : ByteArray) (g : Sg) (c : UInt8) (a : Nat) (out : List (List ByteArray)) : elP s g c a out =
    if c = g.n then some (out, a)
    else match pieceP s g a [] with
      | none => none
      | some (t, c', a') => elP s g c' a' (addLast (newEl g c out) ⟨t.toArray⟩) := by
  unfold elP
  rw [elF]
  split
  · rfl
  · cases hp : pieceP s g a [] with
    | none => rfl
    | some x =>
      obtain ⟨t, c', a'⟩ := x
      obtain ⟨h1, h2, _⟩ := piece_adv hp
      exact elF_more s g s.size a' c' _ h2 (by omega)
theorem elF_adv (s : ByteArray) (g : Sg) : ∀ (f : Nat) (c : UInt8) (a : Nat) (out : List (List ByteArray)) {l : List (List ByteArray)} {a' : Nat}, a ≤ s.size → elF s g f c a out = some (l, a') → a ≤ a' ∧ a' ≤ s.size
  | 0, _, _, _, _, _, _, h => by simp [elF] at h
  | f + 1, c, a, out, l, a', ha, h => by
    rw [elF] at h
    split at h
    · simp only [Option.some.injEq, Prod.mk.injEq] at h
      obtain ⟨_, rfl⟩ := h
      exact ⟨Nat.le_refl _, ha⟩
    · cases hp : pieceP s g a [] with
      | none => rw [hp] at h; cases h
      | some x =>
        obtain ⟨t, c', b⟩ := x
        rw [hp] at h
        obtain ⟨h1, h2, _⟩ := piece_adv hp
        have := elF_adv s g f c' b _ h2 h
        omega
theorem el_adv {s : ByteArray} {g : Sg} {c : UInt8} {a a' : Nat} {out l : List (List ByteArray)} (ha : a ≤ s.size) (h : elP s g c a out = some (l, a')) : a ≤ a' ∧ a' ≤ s.size := elF_adv s g _ _ _ _ ha h
structure Seg where
  tag : ByteArray
  els : List (List ByteArray)
deriving DecidableEq
abbrev ParR := List Seg × Int × Int
def parF (s : ByteArray) (g : Sg) : Nat → Nat → List Seg → ParR
  | 0, _, out => (out, 0, 0)
  | f + 1, a0, out =>
    if skipP s a0 < s.size then
      if out.length = 10000 then ([], ((skipP s a0 : Nat) : Int), 2)
      else if (tagR s g (skipP s a0)).1.2.2 ≠ 0 then ([], (tagR s g (skipP s a0)).1.2.1, (tagR s g (skipP s a0)).1.2.2)
      else match elP s g (byteAt s (tagR s g (skipP s a0)).2) ((tagR s g (skipP s a0)).2 + 1) [] with
        | none => ([], ((s.size : Nat) : Int), 10)
        | some (l, a') => parF s g f a' (out ++ [⟨(tagR s g (skipP s a0)).1.1, l⟩])
    else (out, 0, 0)
theorem tagR_ok {s : ByteArray} {g : Sg} {a : Nat} (h : (tagR s g a).1.2.2 = 0) : tagR s g a = ((tagAt s a, 0, 0), a + 3) ∧ (tagAt s a).size = 3 ∧ a + 3 ≠ s.size ∧ (byteAt s (a + 3) = g.e ∨ byteAt s (a + 3) = g.n) := by
  have hs : (tagAt s a).size ≤ 3 := by unfold tagAt; rw [ByteArray.size_extract]; omega
  unfold tagR at h ⊢
  split at h
  · cases h
  · split at h
    · cases h
    · split at h
      · cases h
      · rename_i h1 h2 h3
        rw [if_neg h1, if_neg h2, if_neg h3]
        have h4 : (tagAt s a).size = 3 := by omega
        rw [h4] at h2 h3 ⊢
        refine ⟨rfl, rfl, fun e => h2 (.inr e), ?_⟩
        by_cases he : byteAt s (a + 3) = g.e
        · exact .inl he
        · exact .inr (Decidable.byContradiction fun hn => h3 ⟨he, hn⟩)
theorem tagAt_lt {s : ByteArray} {a : Nat} (h : (tagAt s a).size = 3) (h2 : a + 3 ≠ s.size) : a + 3 < s.size := by
  unfold tagAt at h; rw [ByteArray.size_extract] at h; omega
theorem parF_more (s : ByteArray) (g : Sg) : ∀ (f a : Nat) (out : List Seg), a ≤ s.size → s.size - a < f → parF s g f a out = parF s g (f + 1) a out
  | 0, _, _, _, h => by omega
  | f + 1, a, out, ha, h => by
    rw [parF, parF]
    split
    · rename_i hlt
      split
      · rfl
      · split
        · rfl
        · rename_i he
          obtain ⟨e1, e2, e3, _⟩ := tagR_ok (s := s) (g := g) (a := skipP s a) (by simpa using he)
          have e4 := tagAt_lt e2 e3
          have hk := skip_rng ha
          rw [e1]
          dsimp only
          cases hp : elP s g (byteAt s (skipP s a + 3)) (skipP s a + 3 + 1) [] with
          | none => rfl
          | some x =>
            obtain ⟨l, a'⟩ := x
            have h2 := el_adv (by omega) hp
            exact parF_more s g f a' _ h2.2 (by omega)
    · rfl
def parP (s : ByteArray) (g : Sg) (a : Nat) (out : List Seg) : ParR := parF s g (s.size + 1) a out
theorem par_eq (s : ByteArray) (g : Sg) (a : Nat) (out : List Seg) (ha : a ≤ s.size) : parP s g a out =
    if skipP s a < s.size then
      if out.length = 10000 then ([], ((skipP s a : Nat) : Int), 2)
      else if (tagR s g (skipP s a)).1.2.2 ≠ 0 then ([], (tagR s g (skipP s a)).1.2.1, (tagR s g (skipP s a)).1.2.2)
      else match elP s g (byteAt s (tagR s g (skipP s a)).2) ((tagR s g (skipP s a)).2 + 1) [] with
        | none => ([], ((s.size : Nat) : Int), 10)
        | some (l, a') => parP s g a' (out ++ [⟨(tagR s g (skipP s a)).1.1, l⟩])
    else (out, 0, 0) := by
  unfold parP
  rw [parF]
  split
  · split
    · rfl
    · split
      · rfl
      · rename_i he
        obtain ⟨e1, e2, e3, _⟩ := tagR_ok (s := s) (g := g) (a := skipP s a) (by simpa using he)
        have e4 := tagAt_lt e2 e3
        have hk := skip_rng ha
        rw [e1]
        dsimp only
        cases hp : elP s g (byteAt s (skipP s a + 3)) (skipP s a + 3 + 1) [] with
        | none => rfl
        | some x =>
          obtain ⟨l, a'⟩ := x
          have h2 := el_adv (by omega) hp
          exact parF_more s g s.size a' _ h2.2 (by omega)
  · rfl
def alnum (c : UInt8) : Prop := c.toNat ≤ 32 ∨ (48 ≤ c.toNat ∧ c.toNat ≤ 57) ∨ (65 ≤ c.toNat ∧ c.toNat ≤ 90) ∨ (97 ≤ c.toNat ∧ c.toNat ≤ 122)
instance (c : UInt8) : Decidable (alnum c) := by unfold alnum; infer_instance
/-- Signs that are permitted. -/
def rightS (g : Sg) : Prop := (¬alnum g.c ∧ ¬alnum g.e ∧ ¬alnum g.r ∧ ¬alnum g.n) ∧ g.e ≠ g.c ∧ (g.r ≠ g.c ∧ g.r ≠ g.e) ∧ g.n ≠ g.c ∧ g.n ≠ g.e ∧ g.n ≠ g.r
instance (g : Sg) : Decidable (rightS g) := by unfold rightS; infer_instance
def usualG : Sg := ⟨58, 43, 63, 39⟩
def ownG (s : ByteArray) : Sg := ⟨byteAt s 3, byteAt s 4, byteAt s 6, byteAt s 8⟩
def unaP (s : ByteArray) : Prop := 3 ≤ s.size ∧ s.extract 0 3 = ⟨#[85, 78, 65]⟩
instance (s : ByteArray) : Decidable (unaP s) := by unfold unaP; infer_instance
/-- A message, read. -/
def parR (s : ByteArray) : ParR :=
  if unaP s then (if s.size < 9 then ([], ((s.size : Nat) : Int), 10) else if rightS (ownG s) then parP s (ownG s) 9 [] else ([], 3, 11))
  else parP s usualG 0 []
end Go.PK

/- Of the proofs of YtbamklefagghcaaGreatDoor; see NOTES.md. -/
/-! Nil checks; the ends of functions that return nothing, or several results. -/
namespace Go.PK
open Go Go.RowKit
set_option linter.unusedVariables false
section
variable {P : Program} {n : Nat} {l : List (Nat × Value)} {own : List (Nat × Obj)} {ro : List Snap} {ty : TypeId} {x y : Operand} {t t' : TypeId}
theorem v_nilCheck {a : Addr} (hx : ev l x = some (.pointer (some a))) : OpV P n l own ro (.nilCheck x) ty (.pointer (some a)) := by
  intro A w o ha _ ho _
  simp [execOp, ho, ha.eval hx]
/-- What memory tells, at any point. -/
theorem w_mem {c : Code} {Q : Exit → Act → World → Prop} (h : ∀ w1, Mem w1 own ro → W P c Q n l own ro) : W P c Q n l own ro := fun a w ha hw => h w hw a w ha hw
theorem s_mem {K : Act → World → Prop} (h : ∀ w1, Mem w1 own ro → S K n l own ro) : S K n l own ro := fun a w ha hw => h w hw a w ha hw
theorem Mem.fresh {w w0 : World} {b : Nat} {o : Obj} {rest own0 : List (Nat × Obj)} {ro : List Snap} (h : Mem w ((b, o) :: rest) ro) (hs : (w0, notOwn own0) ∈ ro) (he : own0.map (·.1) = rest.map (·.1)) : w0.heap.size ≤ b :=
  h.apart (b, o) (.head _) _ hs (fun q hq e => by
    have hnd := h.own_nd
    simp only [List.map_cons, List.nodup_cons] at hnd
    have e : q.1 = b := e
    exact hnd.1 (by rw [← he, ← e]; exact List.mem_map_of_mem hq))
variable {lops : List Oper} {Q : Exit → Act → World → Prop} {K : Act → World → Prop} {rest : List (Option Bool × Nat)} {i d : Nat} {pos : String} {af : Array Edge}
/-- A call that turns the caller's own blocks, and hands over new memory: 'τ' is what is new, 'R' says it of the world behind. -/
theorem x_turn_n {τ : Type} {f : FuncId} {fn : Func} {xs : Array Operand} {tys : Array TypeId} {vs : List Value} (R : τ → Value → World → World → Prop) (O : τ → List (Nat × Obj)) (ho : lops[i]? = some ⟨some d, .call ⟨.value (.func f), xs, tys⟩, ty, pos, af, none⟩) (hd : decide (d < n) = true)
    (hf : P.funcs[f]? = some fn) (hbody : (!(fn.name == "runtime.NumGoroutine") && fn.body.isSome) = true) (hx : evs l xs.toList = some vs)
    (hc : ∀ w, Mem w own ro → Calls P f vs.toArray w fun e w' => ∃ v, e = .returned v ∧ ∃ x, R x v w w' ∧ Mem w' (O x) ro)
    (h : ∀ v x w1 w2, Mem w1 own ro → R x v w1 w2 → Mem w2 (O x) ro → WX P lops.toArray Q K rest n ((d, v) :: l) (O x) ((w2, notOwn (O x)) :: ro)) : WX P lops.toArray Q K ((none, i) :: rest) n l own ro := by
  intro a w ha hw
  have hd' : d < n := of_decide_eq_true hd
  have hw1 := go_none (lops := lops) (n := n) (l := l) (o := ⟨some d, .call ⟨.value (.func f), xs, tys⟩, ty, pos, af, none⟩) rfl a ha
  simp only [wpX, List.getElem?_toArray, ho]
  intro w' hl
  rw [if_pos hw1]
  unfold Oper.wp
  rw [run_callv (c := .func f) (fst := #[]) (cap := #[]) rfl ha rfl hf hbody hx]
  have hc' := hc w' (hw.later hl)
  have hc2 : Calls P f ((#[] : Array Value) ++ vs.toArray ++ #[]) w' fun e w2 => ∃ v, e = .returned v ∧ ∃ x, R x v w' w2 ∧ Mem w2 (O x) ro := by simpa using hc'
  refine Calls.mono hc2 fun e w2 he => ?_
  obtain ⟨v, rfl, x, hr, hm⟩ := he
  exact h v x w' w2 (hw.later hl) hr hm _ w2 (ha.put v hd') hm.snap
/-- .. a static function, its value known. -/
theorem x_turnf {τ : Type} {f : FuncId} {fn : Func} {xs : Array Operand} {tys : Array TypeId} {vs : List Value} {v : Value} (R : τ → Prop) (O : τ → List (Nat × Obj)) (ho : lops[i]? = some ⟨some d, .call ⟨.value (.func f), xs, tys⟩, ty, pos, af, none⟩) (hd : decide (d < n) = true)
    (hf : P.funcs[f]? = some fn) (hbody : (!(fn.name == "runtime.NumGoroutine") && fn.body.isSome) = true) (hx : evs l xs.toList = some vs)
    (hc : ∀ w, Mem w own ro → Calls P f vs.toArray w fun e w' => e = .returned v ∧ ∃ x, R x ∧ Mem w' (O x) ro)
    (h : ∀ x, R x → WX P lops.toArray Q K rest n ((d, v) :: l) (O x) ro) : WX P lops.toArray Q K ((none, i) :: rest) n l own ro :=
  x_turn (fst := #[]) (cap := #[]) R O ho hd rfl hf hbody hx (fun w hw => by simpa using hc w hw) h
end
end Go.PK

/- Of the proofs of YtbamklefagghcaaGreatDoor; see NOTES.md. -/
/-! Bytes as data; signs. -/
namespace Go.PK
open Go Go.RowKit
set_option linter.unusedVariables false
def tyB : Ty UInt8 where
  size := 1
  rd := fun _ _ cs x => cs = [.int .u8 (x.toNat : Nat)]
  len := fun h => by rw [h]; rfl
  keep := fun h _ => h
theorem rdr_b {P : Program} {t : TypeId} (ht : P.underlying t = some (.int .u8)) (hc : P.cellsOf t = 1) : Rdr P t tyB :=
  ⟨hc, Nat.one_pos, fun h => by
    obtain ⟨n, rfl, _, hw⟩ := DataW.trod_int ht h
    have := u8_rng (wf_k hw)
    refine ⟨UInt8.ofNat n.toNat, ?_⟩
    show [Value.int .u8 n] = [Value.int .u8 _]
    rw [UInt8.toNat_ofNat_of_lt' (by show n.toNat < 256; omega)]
    rw [show ((n.toNat : Nat) : Int) = n by omega]⟩
theorem row1_T {α : Type} {T : Ty α} {D : Nat → Prop} {ws : World} {r : RowS} {xs : List α} {n : Nat} (f : α → Value) (hs : T.size = 1) (hr : rowOK 1 r n (xs.map f)) (hn : n = xs.length) (hT : ∀ x ∈ xs, T.rd D ws [f x] x) : RowT T D ws r xs := by
  subst hn
  refine ⟨xs.map fun x => [f x], by simp, ?_, fun j h1 h2 => ?_⟩
  · have e : (xs.map fun x => [f x]).flatten = xs.map f := by
      clear hr hT
      induction xs with
      | nil => rfl
      | cons x xs ih => simp [ih]
    rw [e, hs]; exact hr
  · rw [List.getElem_map]; exact hT _ (List.getElem_mem h2)
theorem row1_rd {α : Type} {T : Ty α} {D : Nat → Prop} {w : World} {own : List (Nat × Obj)} {ro : List Snap} {e : TypeId} {r : RowS} {xs : List α} {n : Nat} (f : α → Value) (hs : T.size = 1) (hr : rowOK 1 r n (xs.map f)) (hn : n = xs.length) (hT : ∀ D' ws, ∀ x ∈ xs, T.rd D' ws [f x] x)
    (hm : Mem w own ro) (hin : ∀ p ∈ rowO e r, p ∈ own) (hD : ∀ p ∈ rowO e r, D p.1) : sliceRd T D w (rowV r n) xs :=
  (row1_T (D := fun _ => False) (ws := w) f hs hr hn (hT _ _)).rd hm hin (fun _ h => h.elim) hD hn
theorem b_at {D : Nat → Prop} {w : World} {A : Option Addr} {l c : Nat} {xs : List UInt8} (h : sliceRd tyB D w (.slice A l c) xs) {k : Nat} (hk : k < xs.length) :
    ∃ b off, A = some ⟨b, off, none⟩ ∧ D b ∧ w.cell? ⟨b, off + k, none⟩ = some (.int .u8 (xs[k].toNat : Nat)) := by
  obtain ⟨A', c', e, h1, h2, h3⟩ := h
  injection e with e1 e2 e3
  obtain ⟨b, off, hA, hD, hb, hc⟩ := h3 (by omega)
  obtain ⟨cs, hcs, hok⟩ := hc k hk
  have hok : cs = [.int .u8 (xs[k].toNat : Nat)] := hok
  subst hok
  have := hcs 0 (by simp)
  exact ⟨b, off, e1.trans hA, hD, by simpa [tyB] using this⟩
theorem s_at {D : Nat → Prop} {w : World} {A : Option Addr} {l c : Nat} {xs : List ByteArray} (h : sliceRd tyStr D w (.slice A l c) xs) {k : Nat} (hk : k < xs.length) :
    ∃ b off, A = some ⟨b, off, none⟩ ∧ D b ∧ w.cell? ⟨b, off + k, none⟩ = some (.string xs[k]) ∧ okS xs[k] := by
  obtain ⟨A', c', e, h1, h2, h3⟩ := h
  injection e with e1 e2 e3
  obtain ⟨b, off, hA, hD, hb, hc⟩ := h3 (by omega)
  obtain ⟨cs, hcs, hok⟩ := hc k hk
  obtain ⟨hok, hs⟩ : cs = [.string xs[k]] ∧ okS xs[k] := hok
  subst hok
  have := hcs 0 (by simp)
  exact ⟨b, off, e1.trans hA, hD, by simpa [tyStr] using this, hs⟩
/-- One cell of a slice of slices. -/
theorem sl_at {α : Type} {T : Ty α} {D : Nat → Prop} {w : World} {A : Option Addr} {l c : Nat} {xs : List (List α)} (h : sliceRd (tySlice T) D w (.slice A l c) xs) {k : Nat} (hk : k < xs.length) :
    ∃ b off v, A = some ⟨b, off, none⟩ ∧ D b ∧ w.cell? ⟨b, off + k, none⟩ = some v ∧ sliceRd T D w v xs[k] := by
  obtain ⟨A', c', e, h1, h2, h3⟩ := h
  injection e with e1 e2 e3
  obtain ⟨b, off, hA, hD, hb, hc⟩ := h3 (by omega)
  obtain ⟨cs, hcs, hok⟩ := hc k hk
  obtain ⟨v, hv, hr⟩ : ∃ v, cs = [v] ∧ sliceRd T D w v xs[k] := hok
  subst hv
  have := hcs 0 (by simp)
  exact ⟨b, off, v, e1.trans hA, hD, by simpa [tySlice] using this, hr⟩
def hasU (l : List UInt8) (c : UInt8) : Bool := l.any (fun x => decide (c = x))
theorem cap_a (c : UInt8) : (decide (((c.toNat : Nat) : Int) ≥ 65) && decide (((c.toNat : Nat) : Int) ≤ 90)) = capB c := by
  unfold capB; rw [← Bool.decide_and]; exact decide_eq_decide.2 (by omega)
def signB (c : UInt8) : Bool := decide (c = 58) || decide (c = 43) || decide (c = 63) || decide (c = 39)
theorem lit_eq (c k : UInt8) {z : Int} (hz : z = (k.toNat : Nat)) : decide (((c.toNat : Nat) : Int) = z) = decide (c = k) := by subst hz; exact decide_eq_decide.2 u8_lit
theorem sign_a (c : UInt8) : (decide (((c.toNat : Nat) : Int) = 58) || decide (((c.toNat : Nat) : Int) = 43) || decide (((c.toNat : Nat) : Int) = 63) || decide (((c.toNat : Nat) : Int) = 39)) = signB c := by
  unfold signB; rw [lit_eq (z := 58) c 58 rfl, lit_eq (z := 43) c 43 rfl, lit_eq (z := 63) c 63 rfl, lit_eq (z := 39) c 39 rfl]
def clr (c : UInt8) : UInt8 := UInt8.ofNat (andNotK .u8 (c.toNat : Nat) 32).toNat
theorem clr_all : ∀ c : Fin 256, andNotK .u8 (c.val : Nat) 32 = ((clr (UInt8.ofNat c.val)).toNat : Nat) ∧ (capB (clr (UInt8.ofNat c.val)) = true ↔ (65 ≤ c.val ∧ c.val ≤ 90) ∨ (97 ≤ c.val ∧ c.val ≤ 122)) := by decide +kernel
theorem clr_val (c : UInt8) : andNotK .u8 (c.toNat : Nat) 32 = ((clr c).toNat : Nat) := by
  have := (clr_all ⟨c.toNat, c.toNat_lt⟩).1
  simpa using this
theorem clr_cap (c : UInt8) : capB (clr c) = true ↔ (65 ≤ c.toNat ∧ c.toNat ≤ 90) ∨ (97 ≤ c.toNat ∧ c.toNat ≤ 122) := by
  have := (clr_all ⟨c.toNat, c.toNat_lt⟩).2
  simpa using this
def gl (g : Sg) : List UInt8 := [g.c, g.e, g.r, g.n]
def badAt (l : List UInt8) (k : Nat) : Prop := alnum (l.getD k 0) ∨ hasU (l.take k) (l.getD k 0) = true
instance (l : List UInt8) (k : Nat) : Decidable (badAt l k) := by unfold badAt; infer_instance
def rightL (l : List UInt8) : Nat → Prop
  | 0 => True
  | k + 1 => rightL l k ∧ ¬badAt l k
theorem rightL_le {l : List UInt8} : ∀ {m k : Nat}, k < m → rightL l m → ¬badAt l k
  | 0, _, h, _ => by omega
  | m + 1, k, h, hr => by
    rcases Nat.lt_succ_iff_lt_or_eq.1 h with h | rfl
    · exact rightL_le h hr.1
    · exact hr.2
theorem rightS_iff (g : Sg) : rightS g ↔ rightL (gl g) 4 := by
  obtain ⟨c, e, r, n⟩ := g
  simp only [rightS, rightL, badAt, gl, hasU, List.getD_cons_zero, List.getD_cons_succ, List.take_zero, List.take_succ_cons, List.any_nil, List.any_cons, Bool.or_eq_true, decide_eq_true_eq, not_or, Bool.false_eq_true, or_false, true_and, ne_eq]
  constructor
  · rintro ⟨⟨h1, h2, h3, h4⟩, h5, ⟨h6, h7⟩, h8, h9, h10⟩
    exact ⟨⟨⟨h1, h2, h5⟩, h3, h6, h7⟩, h4, h8, h9, h10⟩
  · rintro ⟨⟨⟨h1, h2, h5⟩, h3, h6, h7⟩, h4, h8, h9, h10⟩
    exact ⟨⟨h1, h2, h3, h4⟩, h5, ⟨h6, h7⟩, h8, h9, h10⟩
end Go.PK

/- Of the proofs of YtbamklefagghcaaGreatDoor; see NOTES.md. -/
/-! A strings.Builder of the call's own, walked: its pointer to itself and its row. -/
namespace Go.PK
open Go Go.RowKit
set_option linter.unusedVariables false
section
variable {P : Program} {n : Nat} {l : List (Nat × Value)} {own : List (Nat × Obj)} {ro : List Snap} {ty : TypeId} {x y : Operand} {t t' : TypeId} {b : Nat}
theorem own_shape {w : World} {cs : Array Value} {e : TypeId} {fz : Nat × Nat} (hw : Mem w own ro) (hb : (b, Obj.cells cs e fz) ∈ own) : w.shape? b = some (e, cs.size) := by
  have hg : w.heap[b]? = some (.cells cs e fz) := hw.own_at _ hb
  simp [World.shape?, hg]
theorem v_toUns {T e : TypeId} {m : Nat} {cs : Array Value} {fz : Nat × Nat} {off : Nat} (hs : P.underlying t = some (.pointer T)) (hd : P.underlying t' = some .unsafePointer) (ht : (P.info? T).map (·.size) = some (m + 1)) (hx : ev l x = some (.pointer (some ⟨b, off, none⟩))) (hb : (b, Obj.cells cs e fz) ∈ own) (ho : off < cs.size) :
    OpV P n l own ro (.convert t t' x) ty (.pointer (some ⟨b, off, none⟩)) := by
  intro A w o ha hw hop _
  obtain ⟨j, hj, hjs⟩ := Option.map_eq_some_iff.1 ht
  have := Lib.run_to_unsafe (P := P) (w := w) (src := t) (dst := t') ⟨b, off, none⟩ hs hd hj (by rw [hjs]; omega) (own_shape hw hb) ho
  simp [execOp, hop, ha.eval hx, this]
theorem v_fromUns {T e : TypeId} {cs : Array Value} {fz : Nat × Nat} {off : Nat} (hs : P.underlying t = some .unsafePointer) (hd : P.underlying t' = some (.pointer T)) (ht : ∃ j, P.info? T = some j) (hx : ev l x = some (.pointer (some ⟨b, off, none⟩))) (hb : (b, Obj.cells cs e fz) ∈ own)
    (hl : liesAt P P.depth e (cs.size / P.cellsOf e) off T 1 = true) : OpV P n l own ro (.convert t t' x) ty (.pointer (some ⟨b, off, none⟩)) := by
  intro A w o ha hw hop _
  obtain ⟨j, hj⟩ := ht
  have := Lib.run_from_unsafe (P := P) (w := w) (src := t) (dst := t') ⟨b, off, none⟩ hs hd hj (own_shape hw hb) hl
  simp [execOp, hop, ha.eval hx, this]
theorem v_noEsc {f : FuncId} {fn : Func} {v : Value} {tys : Array TypeId} (hf : P.funcs[f]? = some fn) (hname : (fn.name == "runtime.NumGoroutine") = false) (hb : fn.body.isNone = true) (hn : Extern.findNext fn = none) (he : Extern.find fn = some Extern.AbiNoEscape.same) (hx : ev l x = some v) :
    OpV P n l own ro (.call ⟨.value (.func f), #[x], tys⟩) ty v := by
  intro A w o ha _ hop _
  have h1 := run_callFunc_extern hf hname hb hn he #[v] w
  rw [Lib.run_noEscape] at h1
  have hf2 : A.eval (.func f) = .func (.func f) #[] #[] := rfl
  simp [execOp, hop, resolve, invoke, ha.eval hx, hf2, Deferred.ofValue, h1]
theorem v_pnil {T : TypeId} {o : Option Addr} (ht : P.underlying t = some (.pointer T)) (hx : ev l x = some (.pointer o)) (hy : ev l y = some (.pointer none)) : OpV P n l own ro (.binOp .eql t x y t') ty (.bool o.isNone) := by
  intro A w q ha _ hq _
  have h : ∀ d : Nat, (Op.equalIn (d + 1) t (.pointer o) (.pointer none)).run P w = .ok o.isNone w := fun d => by
    cases o <;> simp [Op.equalIn, run_underlying ht]
  have h2 : (Op.equal t (.pointer o) (.pointer none)).run P w = .ok o.isNone w := h 9999
  simp [execOp, hq, ha.eval hx, ha.eval hy, eqGuard, binOp, h2]
theorem v_pne {T : TypeId} {a : Addr} {j : TypeInfo} (ht : P.underlying t = some (.pointer T)) (hj : P.info? T = some j) (hx : ev l x = some (.pointer (some a))) (hy : ev l y = some (.pointer (some a))) : OpV P n l own ro (.binOp .neq t x y t') ty (.bool false) := by
  intro A w q ha _ hq _
  have h2 := Lib.run_neq_ptr_same (P := P) (w := w) a ht hj
  simp [execOp, hq, ha.eval hx, ha.eval hy, eqGuard, h2]
end
/-- The builder's blocks: its pointer to itself, its row. -/
def bld2 (T e : TypeId) (b : Nat) (pp : Value) (r : RowS) (k : Nat) : List (Nat × Obj) := (b, .cells #[pp, rowV r k] T (0, 0)) :: rowO e r
def ppOK (b : Nat) (pp : Value) : Prop := pp = .pointer none ∨ pp = .pointer (some ⟨b, 0, none⟩)
theorem bld2_is {T e : TypeId} {B b k : Nat} {pp : Value} {r : RowS} {bs : List UInt8} {w : World} {l2 : List (Nat × Obj)} {ro : List Snap} (hm : Mem w (bld2 T e b pp r k ++ l2) ro) (hp : ppOK b pp) (hr : rowOK 1 r k (byC bs)) (hk : k = bs.length) (hB : ∀ q ∈ bld2 T e b pp r k, B ≤ q.1) : Lib.IsBuilderF T e B b (byC bs) w := by
  subst hk
  have hb : w.heap[b]? = some (.cells #[pp, rowV r bs.length] T (0, 0)) := hm.own_at (b, _) (by simp [bld2])
  have key : w.ownsRowF B e 1 (rowV r bs.length) (byC bs).length (byC bs) ∧ (rowV r bs.length).ownBlock ≠ some b := by
    rw [byC_len]
    cases r with
    | none =>
      have h0 : bs = [] := List.eq_nil_of_length_eq_zero hr.2
      subst h0
      exact ⟨World.ownsRowF_nil .., by simp [rowV, rowA, Value.ownBlock]⟩
    | some x =>
      obtain ⟨g, cs, c⟩ := x
      obtain ⟨h1, h2, h3, h4, h5⟩ := hr
      dsimp only at h2 h3 h4
      have hg : w.heap[g]? = some (.cells cs.toArray e (0, 0)) := hm.own_at (g, _) (by simp [bld2, rowO])
      refine ⟨⟨h1, .inr ⟨g, c, cs.toArray, (0, 0), rfl, hB (g, .cells cs.toArray e (0, 0)) (List.mem_cons_of_mem _ (.head _)), hg, Nat.zero_le _, h2, h3, by simpa using h4, by simpa using h5⟩⟩, ?_⟩
      intro he
      have he : g = b := Option.some.inj he
      have hnd := hm.own_nd
      simp only [bld2, rowO, List.cons_append, List.nil_append, List.map_cons, List.nodup_cons] at hnd
      exact hnd.1 (by simp [he])
  rcases hp with hp | hp
  · exact .inl ⟨hB (b, .cells #[pp, rowV r bs.length] T (0, 0)) (.head _), rowV r bs.length, by rw [← hp]; exact hb, key⟩
  · exact .inr ⟨hB (b, .cells #[pp, rowV r bs.length] T (0, 0)) (.head _), rowV r bs.length, by rw [← hp]; exact hb, key⟩
/-- What is left when the builder is gone. -/
theorem Mem.after {w w' : World} {B : Nat} {l1 l2 : List (Nat × Obj)} {ro : List Snap} (hm : Mem w (l1 ++ l2) ro) (hB : ∀ s ∈ ro, s.1.heap.size ≤ B) (h2 : ∀ q ∈ l2, q.1 < B) (hl : Below B w w') : Mem w' l2 ro := by
  have hl2 : ∀ q ∈ l2, q ∈ l1 ++ l2 := fun q hq => List.mem_append_right _ hq
  refine ⟨fun q hq => (hl.block q.1 (h2 q hq)).trans (hm.own_at q (hl2 q hq)), ?_, fun s hs => ?_, fun s hs k hk hlt => (hl.block k (Nat.lt_of_lt_of_le hlt (hB s hs))).trans (hm.ro_at s hs k hk hlt), fun q hq s hs hd => hm.apart q (hl2 q hq) s hs hd⟩
  · have := hm.own_nd
    rw [List.map_append, List.nodup_append] at this
    exact this.2.1
  · obtain ⟨a, c, d, f⟩ := hm.ro_st s hs
    exact ⟨hl.os.trans a, hl.tape.trans c, hl.output.trans d, Nat.le_trans f hl.size⟩
/-- Blocks that are not among those that were the call's own at w0 are newer. -/
theorem Mem.newB {w w0 : World} {l1 l2 own0 : List (Nat × Obj)} {ro : List Snap} (h : Mem w (l1 ++ l2) ro) (hs : (w0, notOwn own0) ∈ ro) (he : ∀ k, k ∈ own0.map (·.1) → k ∈ l2.map (·.1)) : ∀ q ∈ l1, w0.heap.size ≤ q.1 := fun q hq =>
  h.apart q (List.mem_append_left _ hq) _ hs (fun q2 hq2 e => by
    have hnd := h.own_nd
    rw [List.map_append, List.nodup_append] at hnd
    exact hnd.2.2 q.1 (List.mem_map_of_mem hq) q.1 (he _ (by rw [← e]; exact List.mem_map_of_mem hq2)) rfl)
end Go.PK

/- Of the proofs of YtbamklefagghcaaGreatDoor; see NOTES.md. -/
/-! Rows of rows of strings that are all the call's own. -/
namespace Go.PK
open Go Go.RowKit
set_option linter.unusedVariables false
def ssC (xs : List (List ByteArray)) (Ss : List RowS) : List Value := List.zipWith (fun x S => rowV S x.length) xs Ss
structure SSOK (R : RowS) (Ss : List RowS) (xs : List (List ByteArray)) : Prop where
  len : Ss.length = xs.length
  row : rowOK 1 R xs.length (ssC xs Ss)
  sub : ∀ j (h1 : j < Ss.length) (h2 : j < xs.length), rowOK 1 Ss[j] xs[j].length (xs[j].map Value.string)
def inO (e : TypeId) (Ss : List RowS) : List (Nat × Obj) := Ss.reverse.flatMap (rowO e)
theorem inO_nil (e : TypeId) : inO e [] = [] := rfl
theorem inO_snoc (e : TypeId) (Ss : List RowS) (S : RowS) : inO e (Ss ++ [S]) = rowO e S ++ inO e Ss := by simp [inO]
theorem SSOK.nil : SSOK none [] [] := ⟨rfl, rowOK_nil, fun j h => by simp at h⟩
theorem ssC_snoc {xs : List (List ByteArray)} {Ss : List RowS} (h : Ss.length = xs.length) (x : List ByteArray) (S : RowS) : ssC (xs ++ [x]) (Ss ++ [S]) = ssC xs Ss ++ [rowV S x.length] := by
  unfold ssC; rw [List.zipWith_append h.symm]; rfl
theorem ssC_len {xs : List (List ByteArray)} {Ss : List RowS} (h : Ss.length = xs.length) : (ssC xs Ss).length = xs.length := by unfold ssC; rw [List.length_zipWith, h, Nat.min_self]
theorem SSOK.snoc {R R' S : RowS} {Ss : List RowS} {xs : List (List ByteArray)} {x : List ByteArray} (h : SSOK R Ss xs) (hr : rowOK 1 R' (xs.length + 1) (ssC xs Ss ++ [rowV S x.length])) (hs : rowOK 1 S x.length (x.map Value.string)) : SSOK R' (Ss ++ [S]) (xs ++ [x]) where
  len := by simp [h.len]
  row := by rw [ssC_snoc h.len]; simpa using hr
  sub := fun j h1 h2 => by
    by_cases hj : j < Ss.length
    · have hj2 : j < xs.length := by rw [← h.len]; exact hj
      rw [List.getElem_append_left hj]
      simp only [List.getElem_append_left hj2]
      exact h.sub j hj hj2
    · have hj2 : j = xs.length := by have := h.len; simp at h1 h2; omega
      subst hj2
      rw [List.getElem_append_right (by omega)]
      simp only [List.getElem_append_right (Nat.le_refl _)]
      simpa [h.len] using hs
theorem SSOK.last {R : RowS} {Ss : List RowS} {xs : List (List ByteArray)} (h : SSOK R Ss xs) (hne : xs ≠ []) : ∃ ys y Ts S b cs c, xs = ys ++ [y] ∧ Ss = Ts ++ [S] ∧ R = some (b, cs, c) := by
  have hx := (List.dropLast_concat_getLast hne).symm
  have hne2 : Ss ≠ [] := fun e => by have := h.len; rw [e] at this; exact hne (List.eq_nil_of_length_eq_zero this.symm)
  have hS := (List.dropLast_concat_getLast hne2).symm
  cases hR : R with
  | none => have h1 := h.row; rw [hR] at h1; exact absurd (List.eq_nil_of_length_eq_zero h1.2) hne
  | some z => obtain ⟨b, cs, c⟩ := z; exact ⟨_, _, _, _, b, cs, c, hx, hS, rfl⟩
section
variable {R : RowS} {b c : Nat} {cs : List Value} {Ts : List RowS} {S S' : RowS} {ys : List (List ByteArray)} {y y' : List ByteArray}
theorem SSOK.tl (h : SSOK R (Ts ++ [S]) (ys ++ [y])) : Ts.length = ys.length := by have := h.len; simpa using this
theorem SSOK.lastOK (h : SSOK R (Ts ++ [S]) (ys ++ [y])) : rowOK 1 S y.length (y.map Value.string) := by
  have hl := h.tl
  have := h.sub ys.length (by simp; omega) (by simp)
  rw [List.getElem_append_right (by omega)] at this
  simp only [List.getElem_append_right (Nat.le_refl _)] at this
  simpa [hl] using this
theorem SSOK.lastAt (h : SSOK (some (b, cs, c)) (Ts ++ [S]) (ys ++ [y])) : cs[ys.length]? = some (rowV S y.length) ∧ ys.length < cs.length := by
  obtain ⟨h1, h2, h3, h4, h5⟩ := h.row
  dsimp only at h2 h3 h4 h5
  rw [ssC_snoc h.tl] at h5
  have h6 : (cs.take ((ys ++ [y]).length * 1))[ys.length]? = some (rowV S y.length) := by
    rw [h5, List.getElem?_append_right (by rw [ssC_len h.tl]; exact Nat.le_refl _), ssC_len h.tl]; simp
  rw [List.getElem?_take, if_pos (by simp)] at h6
  exact ⟨h6, (List.getElem?_eq_some_iff.1 h6).1⟩
theorem SSOK.setlast (h : SSOK (some (b, cs, c)) (Ts ++ [S]) (ys ++ [y])) (hs : rowOK 1 S' y'.length (y'.map Value.string)) : SSOK (some (b, cs.set ys.length (rowV S' y'.length), c)) (Ts ++ [S']) (ys ++ [y']) where
  len := by have := h.len; simpa using this
  row := by
    obtain ⟨h1, h2, h3, h4, h5⟩ := h.row
    dsimp only at h2 h3 h4 h5
    rw [ssC_snoc h.tl] at h5 h1
    rw [ssC_snoc h.tl]
    simp only [List.length_append, List.length_singleton, Nat.mul_one] at h1 h2 h5
    refine ⟨by simpa using h1, by simpa using h2, h3, by simpa using h4, ?_⟩
    simp only [List.length_append, List.length_singleton, Nat.mul_one]
    rw [List.take_set, h5, List.set_append_right _ _ (by rw [ssC_len h.tl]; exact Nat.le_refl _), ssC_len h.tl]
    simp
  sub := fun j h1 h2 => by
    have hl := h.tl
    by_cases hj : j < ys.length
    · rw [List.getElem_append_left (by omega)]
      simp only [List.getElem_append_left hj]
      have := h.sub j (by simp; omega) (by simp; omega)
      rw [List.getElem_append_left (by omega)] at this
      simp only [List.getElem_append_left hj] at this
      exact this
    · have hj2 : j = ys.length := by simp at h2; omega
      subst hj2
      rw [List.getElem_append_right (by omega)]
      simp only [List.getElem_append_right (Nat.le_refl _)]
      simpa [hl] using hs
end
theorem put_cell {cs : List Value} {k n : Nat} {S : RowS} (h : k < cs.length) : List.take k cs ++ (rowV S n).cells.toList ++ List.drop (k + 1) cs = cs.set k (rowV S n) := by
  show List.take k cs ++ [rowV S n] ++ List.drop (k + 1) cs = _
  rw [List.set_eq_take_append_cons_drop, if_pos h]; simp
theorem mem_inO {e : TypeId} {Ss : List RowS} {j : Nat} (h : j < Ss.length) : ∀ p ∈ rowO e Ss[j], p ∈ inO e Ss := fun p hp => by
  unfold inO
  exact List.mem_flatMap.2 ⟨Ss[j], by simp, hp⟩
theorem str_rd (xs : List ByteArray) (hok : ∀ s ∈ xs, okS s) (D : Nat → Prop) (ws : World) : ∀ x ∈ xs, tyStr.rd D ws [Value.string x] x := fun x hx => ⟨rfl, hok x hx⟩
theorem rowS_rd {D : Nat → Prop} {w : World} {own : List (Nat × Obj)} {ro : List Snap} {e : TypeId} {r : RowS} {xs : List ByteArray} {n : Nat} (hr : rowOK 1 r n (xs.map Value.string)) (hn : n = xs.length) (hok : ∀ s ∈ xs, okS s)
    (hm : Mem w own ro) (hin : ∀ p ∈ rowO e r, p ∈ own) (hD : ∀ p ∈ rowO e r, D p.1) : sliceRd tyStr D w (rowV r n) xs :=
  row1_rd Value.string rfl hr hn (fun D' ws x hx => ⟨rfl, hok x hx⟩) hm hin hD
theorem SSOK.rd {R : RowS} {Ss : List RowS} {xs : List (List ByteArray)} {D : Nat → Prop} {w : World} {own : List (Nat × Obj)} {ro : List Snap} {eR eS : TypeId} {n : Nat} (h : SSOK R Ss xs) (hn : n = xs.length) (hok : ∀ x ∈ xs, ∀ s ∈ x, okS s)
    (hm : Mem w own ro) (hR : ∀ p ∈ rowO eR R, p ∈ own) (hS : ∀ p ∈ inO eS Ss, p ∈ own) (hD : ∀ p ∈ rowO eR R, D p.1) (hD2 : ∀ p ∈ inO eS Ss, D p.1) : sliceRd (tySlice tyStr) D w (rowV R n) xs := by
  have hT : RowT (tySlice tyStr) D w R xs := by
    refine ⟨(ssC xs Ss).map fun v => [v], by rw [List.length_map, ssC_len h.len], ?_, fun j h1 h2 => ?_⟩
    · have e : ((ssC xs Ss).map fun v => [v]).flatten = ssC xs Ss := by
        generalize ssC xs Ss = l
        induction l with
        | nil => rfl
        | cons a l ih => simp [ih]
      rw [e]; exact h.row
    · rw [List.getElem_map]
      have hjS : j < Ss.length := by rw [h.len]; exact h2
      have hv : (ssC xs Ss)[j]'(by rw [ssC_len h.len]; exact h2) = rowV Ss[j] xs[j].length := by unfold ssC; rw [List.getElem_zipWith]
      rw [hv]
      exact ⟨_, rfl, rowS_rd (e := eS) (h.sub j hjS h2) rfl (hok _ (List.getElem_mem h2)) hm (fun p hp => hS p (mem_inO hjS p hp)) (fun p hp => hD2 p (mem_inO hjS p hp))⟩
  exact hT.rd hm hR (fun _ h => h) hD hn
end Go.PK

/- Of the proofs of YtbamklefagghcaaGreatDoor; see NOTES.md. -/
/-! Messages: what 'open' hands over; segments as data. -/
namespace Go.PK
open Go Go.RowKit
set_option linter.unusedVariables false
abbrev OpenR := Option (Sg × Nat) × Int × Int
def openR (s : ByteArray) : OpenR :=
  if unaP s then (if s.size < 9 then (none, ((s.size : Nat) : Int), 10) else if rightS (ownG s) then (some (ownG s, 9), 0, 0) else (none, 3, 11))
  else (some (usualG, 0), 0, 0)
theorem parR_open (s : ByteArray) : parR s = match (openR s).1 with | some (g, a) => parP s g a [] | none => ([], (openR s).2) := by
  unfold parR openR
  split
  · split
    · rfl
    · split <;> rfl
  · rfl
theorem pre_una (s : ByteArray) : pre s ⟨#[85, 78, 65]⟩ = decide (unaP s) := rfl
theorem openR_le (s : ByteArray) {g : Sg} {a : Nat} (h : (openR s).1 = some (g, a)) : a ≤ s.size ∧ (openR s).2 = (0, 0) := by
  unfold openR at h ⊢
  split at h
  · rename_i hu
    rw [if_pos hu]
    split at h
    · cases h
    · rename_i h9
      rw [if_neg h9]
      split at h
      · rename_i hr
        injection h with h; injection h with h1 h2
        rw [if_pos hr]; exact ⟨by omega, rfl⟩
      · cases h
  · rename_i hu
    rw [if_neg hu]
    injection h with h; injection h with h1 h2
    exact ⟨by omega, rfl⟩
theorem openR_none (s : ByteArray) (h : (openR s).1 = none) : (openR s).2.2 = 10 ∨ (openR s).2.2 = 11 := by
  unfold openR at h ⊢
  split at h
  · rename_i hu
    rw [if_pos hu]
    split at h
    · rename_i h9; rw [if_pos h9]; exact .inl rfl
    · rename_i h9
      rw [if_neg h9]
      split at h
      · cases h
      · rename_i hr; rw [if_neg hr]; exact .inr rfl
  · cases h
def tySeg : Ty Seg := (tyCons tyStr (tyCons (tySlice (tySlice tyStr)) tyNil)).map fun p => ⟨p.1, p.2.1⟩
theorem tySeg_mk {D : Nat → Prop} {w : World} {t : ByteArray} {v : Value} {x : Seg} (ht : t = x.tag) (hok : okS x.tag) (hv : sliceRd (tySlice tyStr) D w v x.els) : tySeg.rd D w [.string t, v] x := by
  subst ht
  exact ⟨(x.tag, x.els, ()), ⟨[.string x.tag], [v], rfl, ⟨rfl, hok⟩, [v], [], rfl, ⟨v, rfl, hv⟩, rfl⟩, rfl⟩
theorem tySeg_is {D : Nat → Prop} {w : World} {cs : List Value} {x : Seg} (h : tySeg.rd D w cs x) : ∃ v, cs = [.string x.tag, v] ∧ okS x.tag ∧ sliceRd (tySlice tyStr) D w v x.els := by
  obtain ⟨⟨t, e, u⟩, ⟨a, b, h0, ⟨h1, h1k⟩, c, d, h2, ⟨v, h3, h4⟩, h5⟩, h6⟩ := h
  subst h6
  have h5 : d = [] := h5
  dsimp only at h1 h3 h4 h1k
  exact ⟨v, by rw [h0, h1, h2, h3, h5]; rfl, h1k, h4⟩
/-- One segment of a slice of segments. -/
theorem seg_at {D : Nat → Prop} {w : World} {A : Option Addr} {l c : Nat} {xs : List Seg} (h : sliceRd tySeg D w (.slice A l c) xs) {k : Nat} (hk : k < xs.length) :
    ∃ b off v, A = some ⟨b, off, none⟩ ∧ D b ∧ w.cell? ⟨b, off + k * 2, none⟩ = some (.string xs[k].tag) ∧ w.cell? ⟨b, off + k * 2 + 1, none⟩ = some v ∧ okS xs[k].tag ∧ sliceRd (tySlice tyStr) D w v xs[k].els := by
  obtain ⟨A', c', e, h1, h2, h3⟩ := h
  injection e with e1 e2 e3
  obtain ⟨b, off, hA, hD, hb, hc⟩ := h3 (by omega)
  obtain ⟨cs, hcs, hok⟩ := hc k hk
  obtain ⟨v, rfl, h4, h5⟩ := tySeg_is hok
  have h6 := hcs 0 (by simp)
  have h7 := hcs 1 (by simp)
  have hs : tySeg.size = 2 := rfl
  rw [hs] at h6 h7
  exact ⟨b, off, v, e1.trans hA, hD, h6, h7, h4, h5⟩
theorem Kept.made2 {w wa wb w0 : World} {own : List (Nat × Obj)} {ro : List Snap} {D1 : Nat → Prop} (h : Mem w0 own ro) (hs : (wb, D1) ∈ ro) (hD : ∀ k, wa.heap.size ≤ k → D1 k) (hw : w.heap.size ≤ wa.heap.size) : Kept (fun b => wa.heap.size ≤ b) (newD w own) wb w0 :=
  fun k hk hlt => ⟨⟨Nat.le_trans hw hk, fun p hp he => by
    have h1 := h.apart p hp _ hs (hD _ (by omega))
    simp only at h1; omega⟩, h.ro_at _ hs k (hD k hk) hlt⟩
theorem Mem.join {w1 w2 : World} {own1 own2 : List (Nat × Obj)} {ro : List Snap} (h1 : Mem w1 own1 ro) (h2 : Mem w2 own2 [(w1, fun _ => True)]) : Mem w2 own2 ro where
  own_at := h2.own_at
  own_nd := h2.own_nd
  ro_st := fun s hs => by
    obtain ⟨a, b, c, d⟩ := h1.ro_st s hs
    obtain ⟨a', b', c', d'⟩ := h2.ro_st _ (.head _)
    exact ⟨a'.trans a, b'.trans b, c'.trans c, Nat.le_trans d d'⟩
  ro_at := fun s hs k hk hlt => (h2.ro_at _ (.head _) k trivial (Nat.lt_of_lt_of_le hlt (h1.ro_st s hs).2.2.2)).trans (h1.ro_at s hs k hk hlt)
  apart := fun q hq s hs hd => Nat.le_trans (h1.ro_st s hs).2.2.2 (h2.apart q hq _ (.head _) trivial)
theorem sliceRd_nil {α : Type} {T : Ty α} {D : Nat → Prop} {w : World} : sliceRd T D w (.slice none 0 0) [] := ⟨none, 0, rfl, Nat.le_refl _, Nat.zero_le _, fun h => by simp at h⟩
theorem notOwn_new {w : World} {l1 l2 : List (Nat × Obj)} {ro : List Snap} {p : Nat} {o o' : Obj} (h : Mem w (l1 ++ (p, o) :: l2) ro) (k : Nat) (hk : w.heap.size ≤ k) : notOwn (l1 ++ (p, o') :: l2) k := fun q hq e => by
  have h1 : ∃ q2 ∈ l1 ++ (p, o) :: l2, q2.1 = q.1 := by
    simp only [List.mem_append, List.mem_cons] at hq ⊢
    rcases hq with hq | rfl | hq
    · exact ⟨q, .inl hq, rfl⟩
    · exact ⟨_, .inr (.inl rfl), rfl⟩
    · exact ⟨q, .inr (.inr hq), rfl⟩
  obtain ⟨q2, h2, e2⟩ := h1
  have := h.lt h2
  omega
end Go.PK

/- Of the proofs of YtbamklefagghcaaGreatDoor; see NOTES.md. -/
/-! A region that draws its order, where several operations that make memory may come up: the orders are a tree. -/
namespace Go.PK
open Go Go.RowKit
set_option linter.unusedVariables false
inductive Pl where
  | done
  | flt (i : Nat) (t : Pl)
  | gr (i : Nat) (t e : Pl)
  | nil
def Pl.heads : Pl → List Nat
  | .gr i _ e => i :: e.heads
  | _ => []
section
variable {P : Program} {ops : Array Oper} {md : Region.Mode}
def wpT (P : Program) (ops : Array Oper) (K : Act → World → Prop) : Pl → Act → World → Prop
  | .done, a, w => K a w
  | .flt i t, a, w => match ops[i]? with
    | none => False
    | some o => if Region.wanted o (yielded ops a.tmps) then flt P o a w (fun a' => wpT P ops K t a' w) else wpT P ops K t (a.put o.dst undef) w
  | .gr i t e, a, w => (match ops[i]? with
    | none => False
    | some o => if Region.wanted o (yielded ops a.tmps) then grw P o a w (wpT P ops K t) else wpT P ops K t (a.put o.dst undef) w) ∧ wpT P ops K e a w
  | .nil, _, _ => True
def treeB (md : Region.Mode) (ops : Array Oper) (n : Nat) : Bool → Nat → Pl → Array Bool → Bool
  | alt, f, .done, listed => !alt && decide (f = 0) && Region.seqB md ops (ops.size - n) n listed
  | alt, f, .flt i t, listed => !alt && decide (0 < f) && decide (i < n) && (Region.ready md ops listed).contains i && Region.free md ops listed i && treeB md ops n false (f - 1) t (listed.setIfInBounds i true)
  | alt, f, .gr i t e, listed => (alt || ((Region.ready md ops listed).all (fun j => ((Pl.gr i t e).heads).contains j) && !(Region.ready md ops listed).isEmpty)) && decide (0 < f) && decide (i < n) && treeB md ops n false (f - 1) t (listed.setIfInBounds i true) && treeB md ops n true f e listed
  | alt, _, .nil, _ => alt
theorem wpAnyC_tree {n : Nat} {Q : Act → World → Prop} (hQ : ∀ a w w', Later w w' → Q a w → Q a w') (hsel : Region.noSelect ops = true)
    (hnt : ∀ i, i < n → ∀ listed, HeadInv md ops n listed → listed.getD i true = false → ∀ j ∈ Region.ready md ops listed, j < n) :
    ∀ (t : Pl) (f : Nat) (listed : Array Bool) (a : Act) (w : World), HeadInv md ops n listed →
      (treeB md ops n false f t listed = true → wpT P ops Q t a w → wpAnyC P md ops n (fun listed' a' w' => Region.seqB md ops (ops.size - n) n listed' = true ∧ Q a' w') f listed a w) ∧
      (treeB md ops n true f t listed = true → wpT P ops Q t a w → ∀ j ∈ t.heads, j ∈ Region.ready md ops listed → 0 < f ∧ j < n ∧ canOp P ops j (wpAnyC P md ops n (fun listed' a' w' => Region.seqB md ops (ops.size - n) n listed' = true ∧ Q a' w') (f - 1) (listed.setIfInBounds j true)) a w)
  | .done, f, listed, a, w, _ => ⟨fun hB h => by
      simp only [treeB, Bool.and_eq_true, decide_eq_true_eq] at hB
      obtain ⟨⟨_, rfl⟩, hB⟩ := hB
      exact ⟨hB, h⟩, fun hB => by simp [treeB] at hB⟩
  | .flt i t, f, listed, a, w, inv => ⟨fun hB h => by
      simp only [treeB, Bool.and_eq_true, decide_eq_true_eq] at hB
      obtain ⟨⟨⟨⟨⟨_, hf⟩, hin⟩, hr⟩, hfr⟩, hB'⟩ := hB
      obtain ⟨g, rfl⟩ : ∃ g, f = g + 1 := ⟨f - 1, by omega⟩
      have hr' : i ∈ Region.ready md ops listed := by simpa using hr
      unfold wpT at h
      cases ho : ops[i]? with
      | none => simp only [ho] at h
      | some o =>
        simp only [ho] at h
        obtain ⟨v, hy, hK⟩ : ∃ v, YieldsC P ops o v a w ∧ wpT P ops Q t (a.put o.dst v) w := by
          by_cases hw : Region.wanted o (yielded ops a.tmps) = true
          · rw [if_pos hw] at h
            obtain ⟨v, h1, h2⟩ := h
            exact ⟨v, .inl ⟨hw, h1⟩, h2⟩
          · rw [if_neg hw] at h
            exact ⟨undef, .inr ⟨by simpa using hw, rfl⟩, h⟩
        exact wpAnyC_first (fun _ _ _ _ hw hq => ⟨hq.1, hQ _ _ _ hw hq.2⟩) ho (Region.noSelect_spec hsel) (hnt i hin) (fun _ _ _ hL => seqB_ready hL.1) hin g listed a w inv (Region.free_spec ho hfr) hr' hy
          ((wpAnyC_tree hQ hsel hnt t g _ _ _ (inv.set hr' hin)).1 (by simpa using hB') hK), fun hB => by simp [treeB] at hB⟩
  | .gr i t e, f, listed, a, w, inv => by
      have alt : ∀ alt, treeB md ops n alt f (.gr i t e) listed = true → wpT P ops Q (.gr i t e) a w → ∀ j ∈ (Pl.gr i t e).heads, j ∈ Region.ready md ops listed → 0 < f ∧ j < n ∧ canOp P ops j (wpAnyC P md ops n (fun listed' a' w' => Region.seqB md ops (ops.size - n) n listed' = true ∧ Q a' w') (f - 1) (listed.setIfInBounds j true)) a w := by
        intro alt hB h j hj hjr
        simp only [treeB, Bool.and_eq_true, decide_eq_true_eq] at hB
        obtain ⟨⟨⟨⟨_, hf⟩, hin⟩, hB1⟩, hB2⟩ := hB
        unfold wpT at h
        obtain ⟨h1, h2⟩ := h
        simp only [Pl.heads, List.mem_cons] at hj
        by_cases hji : j = i
        · subst hji
          refine ⟨hf, hin, fun w' hw' => ?_⟩
          cases ho : ops[j]? with
          | none => simp only [ho] at h1
          | some o =>
            simp only [ho] at h1
            unfold wpOp
            simp only [ho]
            by_cases hw : Region.wanted o (yielded ops a.tmps) = true
            · rw [if_pos hw] at h1 ⊢
              exact .inl (Oper.wp_mono (fun a' w2 hk => ⟨hk.1, (wpAnyC_tree hQ hsel hnt t _ _ _ _ (inv.set hjr hin)).1 hB1 hk.2⟩) (h1 w' hw'))
            · rw [if_neg hw] at h1 ⊢
              exact ⟨Later.refl _, wpAnyC_later (fun _ _ _ _ hw hq => ⟨hq.1, hQ _ _ _ hw hq.2⟩) _ _ _ _ _ hw' ((wpAnyC_tree hQ hsel hnt t _ _ _ _ (inv.set hjr hin)).1 hB1 h1)⟩
        · have hj' : j ∈ e.heads := by rcases hj with h | h; exact absurd h hji; exact h
          exact (wpAnyC_tree hQ hsel hnt e f listed a w inv).2 hB2 h2 j hj' hjr
      refine ⟨fun hB h => ?_, alt true⟩
      have hB0 := hB
      simp only [treeB, Bool.and_eq_true, decide_eq_true_eq, Bool.false_or] at hB
      obtain ⟨⟨⟨⟨⟨hall, hne⟩, hf⟩, _⟩, _⟩, _⟩ := hB
      obtain ⟨g, rfl⟩ : ∃ g, f = g + 1 := ⟨f - 1, by omega⟩
      refine ⟨fun h0 => by rw [h0] at hne; simp at hne, fun j hj => ?_⟩
      have hjh : j ∈ (Pl.gr i t e).heads := by simpa using List.all_eq_true.1 hall j hj
      exact (alt false hB0 h j hjh hj).2
  | .nil, f, listed, a, w, _ => ⟨fun hB => by simp [treeB] at hB, fun _ _ j hj => by simp [Pl.heads] at hj⟩
theorem wp_region_tree {id : Nat} {Q : Exit → Act → World → Prop} {a : Act} {w : World} {l : List Oper} (n : Nat) (t : Pl) (hm : P.follows .mixedOrders = true)
    (hB : (Region.noSelect l.toArray && (decide (n = l.toArray.size) || (decide (n < l.toArray.size) && Region.sinkB .any l.toArray n && Region.chainB .any l.toArray n)) && treeB .any l.toArray n false n t (Array.replicate l.toArray.size false)) = true)
    (h : wpT P l.toArray (fun a' w' => ∀ w'', Later w' w'' → wpList P l.toArray Q (l.drop n) a' w'') t a w) : (Code.region id l.toArray true).wp P Q a w := by
  simp only [Bool.and_eq_true] at hB
  obtain ⟨⟨hsel, hn⟩, hpl⟩ := hB
  have hnle : n ≤ l.toArray.size := by
    rcases Bool.or_eq_true _ _ ▸ hn with hn | hn
    · simp only [decide_eq_true_eq] at hn; omega
    · simp only [Bool.and_eq_true, decide_eq_true_eq] at hn; omega
  have hnt : ∀ i, i < n → ∀ listed, HeadInv .any l.toArray n listed → listed.getD i true = false → ∀ j ∈ Region.ready .any l.toArray listed, j < n := by
    intro i hin listed inv hun j hj
    rcases Bool.or_eq_true _ _ ▸ hn with hn | hn
    · simp only [decide_eq_true_eq] at hn
      have := ready_lt j hj
      omega
    · simp only [Bool.and_eq_true, decide_eq_true_eq] at hn
      obtain ⟨⟨hn, hs⟩, hc⟩ := hn
      rcases Nat.lt_or_ge j n with h | h
      · exact h
      · exact absurd hj (tail_waits hs hc hn inv _ i rfl hin hun j h)
  have inv0 : HeadInv .any l.toArray n (Array.replicate l.toArray.size false) :=
    ⟨by simp, fun j oj _ hl => (by rw [getD_replicate_false] at hl; cases hl), fun t _ ht => getD_in (by simpa using ht) (getD_replicate_false _ _)⟩
  have H := (wpAnyC_tree (P := P) (md := .any) (Q := fun a' w' => ∀ w'', Later w' w'' → wpList P l.toArray Q (l.drop n) a' w'') (fun a w w' hw hq w'' hw'' => hq w'' (hw.trans hw'')) hsel hnt t n _ a w inv0).1 hpl h
  refine wp_region_any hm ?_
  have hdl : (l.drop n).length = l.toArray.size - n := by simp
  have := wpAny_of_can (Q' := Q) (g := l.toArray.size - n) (fun listed a' w' hL => by
    have := wpAny_of_seq (md := .any) (Q' := Q) (l.drop n) n listed a' w' (fun j => by simp [List.getElem?_drop]) (by rw [hdl]; exact hL.1) (hL.2 w' (Later.refl _))
    rwa [hdl] at this) _ _ _ _ (wpAnyC_later (fun _ _ _ _ hw hq => ⟨hq.1, fun w2 h2 => hq.2 w2 (hw.trans h2)⟩) _ _ _ _ _ (Later.drew w) H)
  rw [show n + (l.toArray.size - n) = l.toArray.size by omega] at this
  exact this
end
section
variable {P : Program} {n : Nat} {l : List (Nat × Value)} {own : List (Nat × Obj)} {ro : List Snap}
theorem rg_tree {id : Nat} {Q : Exit → Act → World → Prop} {lops : List Oper} (m : Nat) (t : Pl) (hm : P.follows .mixedOrders = true)
    (hB : (Region.noSelect lops.toArray && (decide (m = lops.toArray.size) || (decide (m < lops.toArray.size) && Region.sinkB .any lops.toArray m && Region.chainB .any lops.toArray m)) && treeB .any lops.toArray m false m t (Array.replicate lops.toArray.size false)) = true)
    (h : S (wpT P lops.toArray (fun a' w' => ∀ w'', Later w' w'' → wpList P lops.toArray Q (lops.drop m) a' w'') t) n l own ro) : W P (.region id lops.toArray true) Q n l own ro :=
  fun a w ha hw => wp_region_tree m t hm hB (h a w ha hw)
variable {ops : Array Oper} {Q : Exit → Act → World → Prop} {K : Act → World → Prop} {i : Nat} {t e : Pl}
theorem t_flt (h : WX P ops Q (wpT P ops K t) [(some true, i)] n l own ro) : S (wpT P ops K (.flt i t)) n l own ro := fun a w ha hw => by
  have h := h a w ha hw
  unfold wpT
  simp only [wpX] at h
  split <;> rename_i ho <;> simp only [ho] at h
  split <;> rename_i hw'
  · rw [if_pos hw'] at h
    obtain ⟨v, h1, h2⟩ := h
    exact ⟨v, h1, h2 w (Later.refl _)⟩
  · rw [if_neg hw'] at h
    exact h w (Later.refl _)
theorem t_gr (h : WX P ops Q (wpT P ops K t) [(some false, i)] n l own ro) (he : S (wpT P ops K e) n l own ro) : S (wpT P ops K (.gr i t e)) n l own ro := fun a w ha hw => by
  have h := h a w ha hw
  unfold wpT
  refine ⟨?_, he a w ha hw⟩
  simp only [wpX] at h
  split <;> rename_i ho <;> simp only [ho] at h
  split <;> rename_i hw'
  · rw [if_pos hw'] at h
    exact fun w2 h2 => Oper.wp_mono (fun a' w' hk => ⟨hk.1, hk.2 w' (Later.refl _)⟩) (h w2 h2)
  · rw [if_neg hw'] at h
    exact h w (Later.refl _)
theorem t_nil : S (wpT P ops K .nil) n l own ro := fun _ _ _ _ => trivial
theorem t_done {lops : List Oper} {m : Nat} (h : WX P lops.toArray Q (fun a w => Q .normal a w) (tailFrom m lops.length) n l own ro) :
    S (wpT P lops.toArray (fun a' w' => ∀ w'', Later w' w'' → wpList P lops.toArray Q (lops.drop m) a' w'') .done) n l own ro :=
  fun a w ha hw w2 h2 => wpList_of_X _ m a w2 rfl (wpX_later h2 (h a w ha hw))
end
end Go.PK

/- Of the proofs of YtbamklefagghcaaGreatDoor; see NOTES.md. -/
/-! As PkTree, but what a region has made may turn again within it: all is said of the world at the region's start. -/
namespace Go.PK
open Go Go.RowKit
set_option linter.unusedVariables false
section
variable {P : Program} {ops : Array Oper} {md : Region.Mode} {w0 : World}
def canOp0 (P : Program) (ops : Array Oper) (w0 : World) (i : Nat) (K : Act → World → Prop) (a : Act) (w : World) : Prop :=
  ∀ w', Later w w' → Later w0 w' → wpOp P ops (fun _ _ _ => False) i (fun a'' w'' => Later w0 w'' ∧ K a'' w'') a w'
theorem canOp0_mono {i : Nat} {a : Act} {w : World} {K K' : Act → World → Prop} (h : ∀ a w, K a w → K' a w) (hh : canOp0 P ops w0 i K a w) : canOp0 P ops w0 i K' a w :=
  fun w' hw h0 => wpOp_mono (fun _ _ hk => ⟨hk.1, h _ _ hk.2⟩) (hh w' hw h0)
theorem canOp0_later {i : Nat} {a : Act} {w w1 : World} {K : Act → World → Prop} (hw : Later w w1) (hh : canOp0 P ops w0 i K a w) : canOp0 P ops w0 i K a w1 :=
  fun w' hw' h0 => hh w' (hw.trans hw') h0
def wpAny0 (P : Program) (md : Region.Mode) (ops : Array Oper) (w0 : World) (n : Nat) (L : Array Bool → Act → World → Prop) : Nat → Array Bool → Act → World → Prop
  | 0, listed, a, w => L listed a w
  | f + 1, listed, a, w => Region.ready md ops listed ≠ [] ∧ ∀ i ∈ Region.ready md ops listed, i < n ∧ canOp0 P ops w0 i (wpAny0 P md ops w0 n L f (listed.setIfInBounds i true)) a w
theorem wpAny0_later {n : Nat} {L : Array Bool → Act → World → Prop} (hL : LaterClosed L) : ∀ (f : Nat) (listed : Array Bool) (a : Act) (w w' : World), Later w w' →
    wpAny0 P md ops w0 n L f listed a w → wpAny0 P md ops w0 n L f listed a w'
  | 0, _, _, _, _, h, hh => hL _ _ _ _ h hh
  | _ + 1, _, _, _, _, h, hh => ⟨hh.1, fun i hi => ⟨(hh.2 i hi).1, canOp0_later h (hh.2 i hi).2⟩⟩
theorem wpAny_of_can0 {n g : Nat} {L : Array Bool → Act → World → Prop} {Q' : Exit → Act → World → Prop} (hL : ∀ listed a w, Later w0 w → L listed a w → wpAny P md ops Q' g listed a w) :
    ∀ (f : Nat) (listed : Array Bool) (a : Act) (w : World), Later w0 w → wpAny0 P md ops w0 n L f listed a w → wpAny P md ops Q' (f + g) listed a w
  | 0, listed, a, w, h0, h => by rw [Nat.zero_add]; exact hL _ _ _ h0 h
  | f + 1, listed, a, w, h0, h => by
    rw [show f + 1 + g = (f + g) + 1 by omega]
    refine ⟨fun he => absurd he h.1, fun i hi => ?_⟩
    have h1 := (h.2 i hi).2 w (Later.refl w) h0
    have h2 : wpOp P ops (fun _ _ _ => False) i (wpAny P md ops Q' (f + g) (listed.setIfInBounds i true)) a w :=
      wpOp_mono (fun a' w' h' => wpAny_of_can0 hL f _ a' w' h'.1 h'.2) h1
    unfold wpOp at h2 ⊢
    split
    · rename_i ho; simp only [ho] at h2; exact h2
    · rename_i o ho
      simp only [ho] at h2
      split
      · rename_i hw
        simp only [hw, if_true] at h2
        rcases h2 with h2 | ⟨_, _, _, h2⟩
        · refine .inl ?_
          unfold Oper.wp at h2 ⊢
          generalize (execOp a.eval o).run P w = r at *
          cases r with
          | ok x w' =>
            cases x <;> simp only [Oper.upon] at h2 ⊢ <;> first
              | exact h2
              | (refine Calls.mono h2 fun e w'' he => ?_
                 cases e with
                 | returned u => exact he
                 | panicked c => exact he.elim
                 | outgrown => obtain ⟨_, _, hf⟩ := he; exact hf.elim)
          | halt x w' => cases x <;> simp only [Oper.upon] at h2 ⊢
        · exact h2.elim
      · rename_i hw
        simp only [hw] at h2
        exact h2
def Yields0 (P : Program) (ops : Array Oper) (w0 : World) (o : Oper) (v : Value) (a : Act) : Prop :=
  (Region.wanted o (yielded ops a.tmps) = true ∧ ∀ w', Later w0 w' → fltAt P o a w' v) ∨ (Region.wanted o (yielded ops a.tmps) = false ∧ v = undef)
theorem Yields0.of_same {o : Oper} {v : Value} {a a' : Act} (hy : Yields0 P ops w0 o v a) (he : execOp a'.eval o = execOp a.eval o)
    (hw : Region.wanted o (yielded ops a'.tmps) = Region.wanted o (yielded ops a.tmps)) : Yields0 P ops w0 o v a' := by
  unfold Yields0 fltAt at *
  rw [he, hw]
  exact hy
theorem Yields0.canOp {i : Nat} {o : Oper} {v : Value} {a : Act} {w : World} (hi : ops[i]? = some o) (hy : Yields0 P ops w0 o v a) {K : Act → World → Prop}
    (h : ∀ w', Later w w' → K (a.put o.dst v) w') : canOp0 P ops w0 i K a w := by
  intro w' hw' h0
  unfold Go.wpOp
  simp only [hi]
  rcases hy with ⟨hw, hv⟩ | ⟨hw, rfl⟩
  · rw [if_pos hw]
    refine .inl ?_
    have h3 := hv w' h0
    unfold fltAt at h3
    unfold Oper.wp
    generalize (execOp a.eval o).run P w' = r at *
    cases r with
    | ok n w1 =>
      cases n <;> simp only [fltUpon] at h3 <;> simp only [Oper.upon]
      case value u => obtain ⟨rfl, rfl⟩ := h3; exact ⟨h0, h _ hw'⟩
      case skip => obtain ⟨rfl, rfl⟩ := h3; exact ⟨h0, h _ hw'⟩
      case enter f args =>
        obtain ⟨rfl, hc⟩ := h3
        exact hc.mono fun e w2 ⟨he, hl⟩ => by subst he; exact ⟨h0.trans hl, h _ (hw'.trans hl)⟩
    | halt x w1 => simp only [fltUpon] at h3
  · rw [if_neg (by rw [hw]; exact Bool.false_ne_true)]
    exact ⟨h0, h _ hw'⟩
theorem canOp_put0 {j : Nat} {oi oj : Oper} {v : Value} (hj : ops[j]? = some oj) (hap : oi.apart ops oj = true)
    (hsi : ∀ cs b, oi.op ≠ .select cs b) (hsj : ∀ cs b, oj.op ≠ .select cs b) {K : Act → World → Prop} {a : Act} {w : World}
    (hy : Yields0 P ops w0 oi v a) (h : canOp0 P ops w0 j K (a.put oi.dst v) w) :
    canOp0 P ops w0 j (fun a' w' => Yields0 P ops w0 oi v a' ∧ K (a'.put oi.dst v) w') a w := by
  obtain ⟨h1, h2, h3⟩ := Oper.apart_spec hap
  intro w' hw' h0
  have keep : ∀ (a : Act), Yields0 P ops w0 oi v a → ∀ u, Yields0 P ops w0 oi v (a.put oj.dst u) := fun a hy u =>
    hy.of_same (execOp_put oi hsi a oj.dst u h3) (wanted_put oi a oj.dst u h3)
  have keepD : ∀ d, Yields0 P ops w0 oi v { a with defers := d :: a.defers } := fun d => hy.of_same rfl rfl
  have h := h w' hw' h0
  unfold Go.wpOp at *
  simp only [hj] at *
  rw [wanted_put oj a oi.dst v h1] at h
  split
  · rename_i hw
    simp only [hw, if_true] at h
    rcases h with h | ⟨hasks, _, _, hlets⟩
    case inr => exact hlets.elim
    refine .inl ?_
    unfold Oper.wp at *
    rw [execOp_put oj hsj a oi.dst v h1] at h
    generalize (execOp a.eval oj).run P w' = r at *
    cases r with
    | ok n w1 =>
      cases n <;> simp only [Oper.upon] at h ⊢
      case value u => exact ⟨h.1, keep a hy u, by rw [← Act.put_comm a v u h2]; exact h.2⟩
      case skip => exact ⟨h.1, keep a hy _, by rw [← Act.put_comm a v undef h2]; exact h.2⟩
      case defer d =>
        refine ⟨h.1, keep _ (keepD d) _, ?_⟩
        rw [← Act.put_comm _ v undef h2, ← Act.put_defers]
        exact h.2
      case enter f args =>
        refine Calls.mono h fun e w2 he => ?_
        cases e with
        | returned u => exact ⟨he.1, keep a hy u, by rw [← Act.put_comm a v u h2]; exact he.2⟩
        | panicked c => exact he
        | outgrown => exact he
      case row row args => exact Rows.mono h fun u w2 he => ⟨he.1, keep a hy u, by rw [← Act.put_comm a v u h2]; exact he.2⟩
    | halt x w1 =>
      cases x <;> simp only [Oper.upon] at h ⊢
  · rename_i hw
    simp only [hw] at h
    exact ⟨h.1, keep a hy _, by rw [← Act.put_comm a v undef h2]; exact h.2⟩
theorem wpAny0_first {n i : Nat} {oi : Oper} {v : Value} {L : Array Bool → Act → World → Prop} (hL : LaterClosed L) (hi : ops[i]? = some oi) (hsel : ∀ (j : Nat) (o : Oper) cs b, ops[j]? = some o → o.op ≠ .select cs b)
    (hnt : ∀ listed, HeadInv md ops n listed → listed.getD i true = false → ∀ j ∈ Region.ready md ops listed, j < n)
    (hdone : ∀ listed a w, L listed a w → ∀ j ∈ Region.ready md ops listed, n ≤ j) (hin : i < n) :
    ∀ (f : Nat) (listed : Array Bool) (a : Act) (w : World), HeadInv md ops n listed →
      (∀ j oj, ops[j]? = some oj → j ≠ i → listed.getD j true = false → (∀ e ∈ oj.after, Region.binds md e = true → e.on ≠ i) → oi.apart ops oj = true) →
      i ∈ Region.ready md ops listed → Yields0 P ops w0 oi v a →
      wpAny0 P md ops w0 n L f (listed.setIfInBounds i true) (a.put oi.dst v) w → wpAny0 P md ops w0 n L (f + 1) listed a w := by
  intro f
  induction f with
  | zero =>
    intro listed a w inv _ hr hy H
    have hun := (mem_ready.1 hr).1
    refine ⟨fun h => (by rw [h] at hr; cases hr), fun j hj => ?_⟩
    have hjn := hnt listed inv hun j hj
    refine ⟨hjn, ?_⟩
    by_cases hji : j = i
    · subst hji; exact hy.canOp hi fun w' hw' => hL _ _ _ _ hw' H
    · have := hdone _ _ _ H j (ready_mono hj hji)
      omega
  | succ f ih =>
    intro listed a w inv hfree hr hy H
    have hun := (mem_ready.1 hr).1
    refine ⟨fun h => (by rw [h] at hr; cases hr), fun j hj => ?_⟩
    have hjn := hnt listed inv hun j hj
    refine ⟨hjn, ?_⟩
    by_cases hji : j = i
    · subst hji; exact hy.canOp hi fun w' hw' => wpAny0_later hL _ _ _ _ _ hw' H
    · have h1 := (H.2 j (ready_mono hj hji)).2
      obtain ⟨hjun, oj, hoj, hall⟩ := mem_ready.1 hj
      have hnot : ∀ e ∈ oj.after, Region.binds md e = true → e.on ≠ i := fun e he hb heq => by
        have h1 := hall e he hb
        rw [heq, getD_both hun] at h1
        cases h1
      have h2 := canOp_put0 hoj (hfree j oj hoj hji hjun hnot) (fun cs b => hsel i oi cs b hi) (fun cs b => hsel j oj cs b hoj) hy h1
      have hfree' : ∀ k ok, ops[k]? = some ok → k ≠ i → (listed.setIfInBounds j true).getD k true = false →
          (∀ e ∈ ok.after, Region.binds md e = true → e.on ≠ i) → oi.apart ops ok = true := fun k ok hk hki hun hno => by
        refine hfree k ok hk hki ?_ hno
        by_cases hjk : j = k
        · subst hjk; exact hjun
        · rw [getD_set_ne true hjk] at hun; exact hun
      refine canOp0_mono (fun a' w' h3 => ih (listed.setIfInBounds j true) a' w' (inv.set hj hjn) hfree' (ready_mono hr (Ne.symm hji)) h3.1 ?_) h2
      rw [Array.setIfInBounds_comm _ _ hji]
      exact h3.2
def wpB (P : Program) (ops : Array Oper) (w0 : World) (K : Act → World → Prop) : Pl → Act → World → Prop
  | .done, a, w => K a w
  | .flt i t, a, w => match ops[i]? with
    | none => False
    | some o => if Region.wanted o (yielded ops a.tmps) then ∃ v, (∀ w', Later w0 w' → fltAt P o a w' v) ∧ wpB P ops w0 K t (a.put o.dst v) w else wpB P ops w0 K t (a.put o.dst undef) w
  | .gr i t e, a, w => (match ops[i]? with
    | none => False
    | some o => if Region.wanted o (yielded ops a.tmps) then ∀ w', Later w w' → o.wp P a w' (fun a'' w'' => Later w0 w'' ∧ wpB P ops w0 K t a'' w'') (fun _ _ _ => False) else wpB P ops w0 K t (a.put o.dst undef) w) ∧ wpB P ops w0 K e a w
  | .nil, _, _ => True
theorem wpAny0_tree {n : Nat} {Q : Act → World → Prop} (hQ : ∀ a w w', Later w w' → Q a w → Q a w') (hsel : Region.noSelect ops = true)
    (hnt : ∀ i, i < n → ∀ listed, HeadInv md ops n listed → listed.getD i true = false → ∀ j ∈ Region.ready md ops listed, j < n) :
    ∀ (t : Pl) (f : Nat) (listed : Array Bool) (a : Act) (w : World), HeadInv md ops n listed →
      (treeB md ops n false f t listed = true → wpB P ops w0 Q t a w → wpAny0 P md ops w0 n (fun listed' a' w' => Region.seqB md ops (ops.size - n) n listed' = true ∧ Q a' w') f listed a w) ∧
      (treeB md ops n true f t listed = true → wpB P ops w0 Q t a w → ∀ j ∈ t.heads, j ∈ Region.ready md ops listed → 0 < f ∧ j < n ∧ canOp0 P ops w0 j (wpAny0 P md ops w0 n (fun listed' a' w' => Region.seqB md ops (ops.size - n) n listed' = true ∧ Q a' w') (f - 1) (listed.setIfInBounds j true)) a w)
  | .done, f, listed, a, w, _ => ⟨fun hB h => by
      simp only [treeB, Bool.and_eq_true, decide_eq_true_eq] at hB
      obtain ⟨⟨_, rfl⟩, hB⟩ := hB
      exact ⟨hB, h⟩, fun hB => by simp [treeB] at hB⟩
  | .flt i t, f, listed, a, w, inv => ⟨fun hB h => by
      simp only [treeB, Bool.and_eq_true, decide_eq_true_eq] at hB
      obtain ⟨⟨⟨⟨⟨_, hf⟩, hin⟩, hr⟩, hfr⟩, hB'⟩ := hB
      obtain ⟨g, rfl⟩ : ∃ g, f = g + 1 := ⟨f - 1, by omega⟩
      have hr' : i ∈ Region.ready md ops listed := by simpa using hr
      unfold wpB at h
      cases ho : ops[i]? with
      | none => simp only [ho] at h
      | some o =>
        simp only [ho] at h
        obtain ⟨v, hy, hK⟩ : ∃ v, Yields0 P ops w0 o v a ∧ wpB P ops w0 Q t (a.put o.dst v) w := by
          by_cases hw : Region.wanted o (yielded ops a.tmps) = true
          · rw [if_pos hw] at h
            obtain ⟨v, h1, h2⟩ := h
            exact ⟨v, .inl ⟨hw, h1⟩, h2⟩
          · rw [if_neg hw] at h
            exact ⟨undef, .inr ⟨by simpa using hw, rfl⟩, h⟩
        exact wpAny0_first (fun _ _ _ _ hw hq => ⟨hq.1, hQ _ _ _ hw hq.2⟩) ho (Region.noSelect_spec hsel) (hnt i hin) (fun _ _ _ hL => seqB_ready hL.1) hin g listed a w inv (Region.free_spec ho hfr) hr' hy
          ((wpAny0_tree hQ hsel hnt t g _ _ _ (inv.set hr' hin)).1 (by simpa using hB') hK), fun hB => by simp [treeB] at hB⟩
  | .gr i t e, f, listed, a, w, inv => by
      have alt : ∀ alt, treeB md ops n alt f (.gr i t e) listed = true → wpB P ops w0 Q (.gr i t e) a w → ∀ j ∈ (Pl.gr i t e).heads, j ∈ Region.ready md ops listed → 0 < f ∧ j < n ∧ canOp0 P ops w0 j (wpAny0 P md ops w0 n (fun listed' a' w' => Region.seqB md ops (ops.size - n) n listed' = true ∧ Q a' w') (f - 1) (listed.setIfInBounds j true)) a w := by
        intro alt hB h j hj hjr
        simp only [treeB, Bool.and_eq_true, decide_eq_true_eq] at hB
        obtain ⟨⟨⟨⟨_, hf⟩, hin⟩, hB1⟩, hB2⟩ := hB
        unfold wpB at h
        obtain ⟨h1, h2⟩ := h
        simp only [Pl.heads, List.mem_cons] at hj
        by_cases hji : j = i
        · subst hji
          refine ⟨hf, hin, fun w' hw' h0 => ?_⟩
          cases ho : ops[j]? with
          | none => simp only [ho] at h1
          | some o =>
            simp only [ho] at h1
            unfold wpOp
            simp only [ho]
            by_cases hw : Region.wanted o (yielded ops a.tmps) = true
            · rw [if_pos hw] at h1 ⊢
              exact .inl (Oper.wp_mono (fun a' w2 hk => ⟨hk.1, (wpAny0_tree hQ hsel hnt t _ _ _ _ (inv.set hjr hin)).1 hB1 hk.2⟩) (h1 w' hw'))
            · rw [if_neg hw] at h1 ⊢
              exact ⟨h0, wpAny0_later (fun _ _ _ _ hw hq => ⟨hq.1, hQ _ _ _ hw hq.2⟩) _ _ _ _ _ hw' ((wpAny0_tree hQ hsel hnt t _ _ _ _ (inv.set hjr hin)).1 hB1 h1)⟩
        · have hj' : j ∈ e.heads := by rcases hj with h | h; exact absurd h hji; exact h
          exact (wpAny0_tree hQ hsel hnt e f listed a w inv).2 hB2 h2 j hj' hjr
      refine ⟨fun hB h => ?_, alt true⟩
      have hB0 := hB
      simp only [treeB, Bool.and_eq_true, decide_eq_true_eq, Bool.false_or] at hB
      obtain ⟨⟨⟨⟨⟨hall, hne⟩, hf⟩, _⟩, _⟩, _⟩ := hB
      obtain ⟨g, rfl⟩ : ∃ g, f = g + 1 := ⟨f - 1, by omega⟩
      refine ⟨fun h0 => by rw [h0] at hne; simp at hne, fun j hj => ?_⟩
      have hjh : j ∈ (Pl.gr i t e).heads := by simpa using List.all_eq_true.1 hall j hj
      exact (alt false hB0 h j hjh hj).2
  | .nil, f, listed, a, w, _ => ⟨fun hB => by simp [treeB] at hB, fun _ _ j hj => by simp [Pl.heads] at hj⟩
theorem wp_region_base {id : Nat} {Q : Exit → Act → World → Prop} {a : Act} {w : World} {l : List Oper} (n : Nat) (t : Pl) (hm : P.follows .mixedOrders = true)
    (hB : (Region.noSelect l.toArray && (decide (n = l.toArray.size) || (decide (n < l.toArray.size) && Region.sinkB .any l.toArray n && Region.chainB .any l.toArray n)) && treeB .any l.toArray n false n t (Array.replicate l.toArray.size false)) = true)
    (h : wpB P l.toArray w (fun a' w' => ∀ w'', Later w' w'' → wpList P l.toArray Q (l.drop n) a' w'') t a w) : (Code.region id l.toArray true).wp P Q a w := by
  simp only [Bool.and_eq_true] at hB
  obtain ⟨⟨hsel, hn⟩, hpl⟩ := hB
  have hnle : n ≤ l.toArray.size := by
    rcases Bool.or_eq_true _ _ ▸ hn with hn | hn
    · simp only [decide_eq_true_eq] at hn; omega
    · simp only [Bool.and_eq_true, decide_eq_true_eq] at hn; omega
  have hnt : ∀ i, i < n → ∀ listed, HeadInv .any l.toArray n listed → listed.getD i true = false → ∀ j ∈ Region.ready .any l.toArray listed, j < n := by
    intro i hin listed inv hun j hj
    rcases Bool.or_eq_true _ _ ▸ hn with hn | hn
    · simp only [decide_eq_true_eq] at hn
      have := ready_lt j hj
      omega
    · simp only [Bool.and_eq_true, decide_eq_true_eq] at hn
      obtain ⟨⟨hn, hs⟩, hc⟩ := hn
      rcases Nat.lt_or_ge j n with h | h
      · exact h
      · exact absurd hj (tail_waits hs hc hn inv _ i rfl hin hun j h)
  have inv0 : HeadInv .any l.toArray n (Array.replicate l.toArray.size false) :=
    ⟨by simp, fun j oj _ hl => (by rw [getD_replicate_false] at hl; cases hl), fun t _ ht => getD_in (by simpa using ht) (getD_replicate_false _ _)⟩
  have H := (wpAny0_tree (P := P) (md := .any) (w0 := w) (Q := fun a' w' => ∀ w'', Later w' w'' → wpList P l.toArray Q (l.drop n) a' w'') (fun a w w' hw hq w'' hw'' => hq w'' (hw.trans hw'')) hsel hnt t n _ a w inv0).1 hpl h
  refine wp_region_any hm ?_
  have hdl : (l.drop n).length = l.toArray.size - n := by simp
  have := wpAny_of_can0 (Q' := Q) (g := l.toArray.size - n) (w0 := w) (fun listed a' w' _ hL => by
    have := wpAny_of_seq (md := .any) (Q' := Q) (l.drop n) n listed a' w' (fun j => by simp [List.getElem?_drop]) (by rw [hdl]; exact hL.1) (hL.2 w' (Later.refl _))
    rwa [hdl] at this) _ _ _ _ (Later.drew w) (wpAny0_later (fun _ _ _ _ hw hq => ⟨hq.1, fun w2 h2 => hq.2 w2 (hw.trans h2)⟩) _ _ _ _ _ (Later.drew w) H)
  rw [show n + (l.toArray.size - n) = l.toArray.size by omega] at this
  exact this
end
section
variable {P : Program} {n : Nat} {l : List (Nat × Value)} {own : List (Nat × Obj)} {ro : List Snap}
theorem Mem.frozen {w : World} (h : Mem w own ro) : Mem w [] ((w, fun _ => True) :: ro) where
  own_at := fun p hp => by cases hp
  own_nd := by simp
  ro_st := fun s hs => by
    rcases List.mem_cons.1 hs with rfl | hs
    · exact ⟨rfl, rfl, rfl, Nat.le_refl _⟩
    · exact h.ro_st s hs
  ro_at := fun s hs k hk hlt => by
    rcases List.mem_cons.1 hs with rfl | hs
    · rfl
    · exact h.ro_at s hs k hk hlt
  apart := fun p hp => by cases hp
theorem rg_base {id : Nat} {Q : Exit → Act → World → Prop} {lops : List Oper} (m : Nat) (t : Pl) (hm : P.follows .mixedOrders = true)
    (hB : (Region.noSelect lops.toArray && (decide (m = lops.toArray.size) || (decide (m < lops.toArray.size) && Region.sinkB .any lops.toArray m && Region.chainB .any lops.toArray m)) && treeB .any lops.toArray m false m t (Array.replicate lops.toArray.size false)) = true)
    (h : ∀ w0, Mem w0 own ro → Mem w0 [] ((w0, fun _ => True) :: ro) → S (wpB P lops.toArray w0 (fun a' w' => ∀ w'', Later w' w'' → wpList P lops.toArray Q (lops.drop m) a' w'') t) n l [] ((w0, fun _ => True) :: ro)) : W P (.region id lops.toArray true) Q n l own ro :=
  fun a w ha hw => wp_region_base m t hm hB (h w hw hw.frozen a w ha hw.frozen)
variable {ops : Array Oper} {Q : Exit → Act → World → Prop} {K : Act → World → Prop} {i : Nat} {t e : Pl} {w0 : World}
theorem b_flt (hm0 : Mem w0 own ro) (hs : (w0, fun _ => True) ∈ ro) (h : WX P ops Q (wpB P ops w0 K t) [(some true, i)] n l own ro) : S (wpB P ops w0 K (.flt i t)) n l own ro := fun a w ha hw => by
  have h := h a w0 ha hm0
  have hl := hw.base hs
  unfold wpB
  simp only [wpX] at h
  split <;> rename_i ho <;> simp only [ho] at h
  split <;> rename_i hw'
  · rw [if_pos hw'] at h
    obtain ⟨v, h1, h2⟩ := h
    exact ⟨v, h1, h2 w hl⟩
  · rw [if_neg hw'] at h
    exact h w hl
theorem b_gr (h : WX P ops (fun _ _ _ => False) (fun a w => Later w0 w ∧ wpB P ops w0 K t a w) [(none, i)] n l own ro) (he : S (wpB P ops w0 K e) n l own ro) : S (wpB P ops w0 K (.gr i t e)) n l own ro := fun a w ha hw => by
  have h := h a w ha hw
  unfold wpB
  refine ⟨?_, he a w ha hw⟩
  simp only [wpX] at h
  split <;> rename_i ho <;> simp only [ho] at h
  split <;> rename_i hw'
  · intro w2 h2
    have h := h w2 h2
    rw [if_pos hw'] at h
    exact Oper.wp_mono (fun a' w' hk => hk w' (Later.refl _)) h
  · have h := h w (Later.refl _)
    rw [if_neg hw'] at h
    exact (h w (Later.refl _)).2
theorem b_end (hs : (w0, fun _ => True) ∈ ro) (h : S (wpB P ops w0 K t) n l own ro) : S (fun a w => Later w0 w ∧ wpB P ops w0 K t a w) n l own ro := fun a w ha hw => ⟨hw.base hs, h a w ha hw⟩
theorem b_nil : S (wpB P ops w0 K .nil) n l own ro := fun _ _ _ _ => trivial
theorem b_done {lops : List Oper} {m : Nat} (h : WX P lops.toArray Q (fun a w => Q .normal a w) (tailFrom m lops.length) n l own ro) :
    S (wpB P lops.toArray w0 (fun a' w' => ∀ w'', Later w' w'' → wpList P lops.toArray Q (lops.drop m) a' w'') .done) n l own ro :=
  fun a w ha hw w2 h2 => wpList_of_X _ m a w2 rfl (wpX_later h2 (h a w ha hw))
end
end Go.PK

/- Of the proofs of YtbamklefagghcaaGreatDoor; see NOTES.md. -/
/-! As PkTree2, over worlds that keep an invariant: blocks that the region turns are left out of it. -/
namespace Go.PK
open Go Go.RowKit
set_option linter.unusedVariables false
section
variable {P : Program} {ops : Array Oper} {md : Region.Mode} {oF : List (Nat × Obj)} {rF : List Snap}
def canOpJ (P : Program) (ops : Array Oper) (oF : List (Nat × Obj)) (rF : List Snap) (i : Nat) (K : Act → World → Prop) (a : Act) (w : World) : Prop :=
  ∀ w', Later w w' → Mem w' oF rF → wpOp P ops (fun _ _ _ => False) i (fun a'' w'' => Mem w'' oF rF ∧ K a'' w'') a w'
theorem canOpJ_mono {i : Nat} {a : Act} {w : World} {K K' : Act → World → Prop} (h : ∀ a w, K a w → K' a w) (hh : canOpJ P ops oF rF i K a w) : canOpJ P ops oF rF i K' a w :=
  fun w' hw h0 => wpOp_mono (fun _ _ hk => ⟨hk.1, h _ _ hk.2⟩) (hh w' hw h0)
theorem canOpJ_later {i : Nat} {a : Act} {w w1 : World} {K : Act → World → Prop} (hw : Later w w1) (hh : canOpJ P ops oF rF i K a w) : canOpJ P ops oF rF i K a w1 :=
  fun w' hw' h0 => hh w' (hw.trans hw') h0
def wpAnyJ (P : Program) (md : Region.Mode) (ops : Array Oper) (oF : List (Nat × Obj)) (rF : List Snap) (n : Nat) (L : Array Bool → Act → World → Prop) : Nat → Array Bool → Act → World → Prop
  | 0, listed, a, w => L listed a w
  | f + 1, listed, a, w => Region.ready md ops listed ≠ [] ∧ ∀ i ∈ Region.ready md ops listed, i < n ∧ canOpJ P ops oF rF i (wpAnyJ P md ops oF rF n L f (listed.setIfInBounds i true)) a w
theorem wpAnyJ_later {n : Nat} {L : Array Bool → Act → World → Prop} (hL : LaterClosed L) : ∀ (f : Nat) (listed : Array Bool) (a : Act) (w w' : World), Later w w' →
    wpAnyJ P md ops oF rF n L f listed a w → wpAnyJ P md ops oF rF n L f listed a w'
  | 0, _, _, _, _, h, hh => hL _ _ _ _ h hh
  | _ + 1, _, _, _, _, h, hh => ⟨hh.1, fun i hi => ⟨(hh.2 i hi).1, canOpJ_later h (hh.2 i hi).2⟩⟩
theorem wpAny_of_canJ {n g : Nat} {L : Array Bool → Act → World → Prop} {Q' : Exit → Act → World → Prop} (hL : ∀ listed a w, Mem w oF rF → L listed a w → wpAny P md ops Q' g listed a w) :
    ∀ (f : Nat) (listed : Array Bool) (a : Act) (w : World), Mem w oF rF → wpAnyJ P md ops oF rF n L f listed a w → wpAny P md ops Q' (f + g) listed a w
  | 0, listed, a, w, h0, h => by rw [Nat.zero_add]; exact hL _ _ _ h0 h
  | f + 1, listed, a, w, h0, h => by
    rw [show f + 1 + g = (f + g) + 1 by omega]
    refine ⟨fun he => absurd he h.1, fun i hi => ?_⟩
    have h1 := (h.2 i hi).2 w (Later.refl w) h0
    have h2 : wpOp P ops (fun _ _ _ => False) i (wpAny P md ops Q' (f + g) (listed.setIfInBounds i true)) a w :=
      wpOp_mono (fun a' w' h' => wpAny_of_canJ hL f _ a' w' h'.1 h'.2) h1
    unfold wpOp at h2 ⊢
    split
    · rename_i ho; simp only [ho] at h2; exact h2
    · rename_i o ho
      simp only [ho] at h2
      split
      · rename_i hw
        simp only [hw, if_true] at h2
        rcases h2 with h2 | ⟨_, _, _, h2⟩
        · refine .inl ?_
          unfold Oper.wp at h2 ⊢
          generalize (execOp a.eval o).run P w = r at *
          cases r with
          | ok x w' =>
            cases x <;> simp only [Oper.upon] at h2 ⊢ <;> first
              | exact h2
              | (refine Calls.mono h2 fun e w'' he => ?_
                 cases e with
                 | returned u => exact he
                 | panicked c => exact he.elim
                 | outgrown => obtain ⟨_, _, hf⟩ := he; exact hf.elim)
          | halt x w' => cases x <;> simp only [Oper.upon] at h2 ⊢
        · exact h2.elim
      · rename_i hw
        simp only [hw] at h2
        exact h2
def YieldsJ (P : Program) (ops : Array Oper) (oF : List (Nat × Obj)) (rF : List Snap) (o : Oper) (v : Value) (a : Act) : Prop :=
  (Region.wanted o (yielded ops a.tmps) = true ∧ ∀ w', Mem w' oF rF → fltAt P o a w' v) ∨ (Region.wanted o (yielded ops a.tmps) = false ∧ v = undef)
theorem YieldsJ.of_same {o : Oper} {v : Value} {a a' : Act} (hy : YieldsJ P ops oF rF o v a) (he : execOp a'.eval o = execOp a.eval o)
    (hw : Region.wanted o (yielded ops a'.tmps) = Region.wanted o (yielded ops a.tmps)) : YieldsJ P ops oF rF o v a' := by
  unfold YieldsJ fltAt at *
  rw [he, hw]
  exact hy
theorem YieldsJ.canOp {i : Nat} {o : Oper} {v : Value} {a : Act} {w : World} (hi : ops[i]? = some o) (hy : YieldsJ P ops oF rF o v a) {K : Act → World → Prop}
    (h : ∀ w', Later w w' → K (a.put o.dst v) w') : canOpJ P ops oF rF i K a w := by
  intro w' hw' h0
  unfold Go.wpOp
  simp only [hi]
  rcases hy with ⟨hw, hv⟩ | ⟨hw, rfl⟩
  · rw [if_pos hw]
    refine .inl ?_
    have h3 := hv w' h0
    unfold fltAt at h3
    unfold Oper.wp
    generalize (execOp a.eval o).run P w' = r at *
    cases r with
    | ok n w1 =>
      cases n <;> simp only [fltUpon] at h3 <;> simp only [Oper.upon]
      case value u => obtain ⟨rfl, rfl⟩ := h3; exact ⟨h0, h _ hw'⟩
      case skip => obtain ⟨rfl, rfl⟩ := h3; exact ⟨h0, h _ hw'⟩
      case enter f args =>
        obtain ⟨rfl, hc⟩ := h3
        exact hc.mono fun e w2 ⟨he, hl⟩ => by subst he; exact ⟨Mem.later h0 hl, h _ (hw'.trans hl)⟩
    | halt x w1 => simp only [fltUpon] at h3
  · rw [if_neg (by rw [hw]; exact Bool.false_ne_true)]
    exact ⟨h0, h _ hw'⟩
theorem canOp_putJ {j : Nat} {oi oj : Oper} {v : Value} (hj : ops[j]? = some oj) (hap : oi.apart ops oj = true)
    (hsi : ∀ cs b, oi.op ≠ .select cs b) (hsj : ∀ cs b, oj.op ≠ .select cs b) {K : Act → World → Prop} {a : Act} {w : World}
    (hy : YieldsJ P ops oF rF oi v a) (h : canOpJ P ops oF rF j K (a.put oi.dst v) w) :
    canOpJ P ops oF rF j (fun a' w' => YieldsJ P ops oF rF oi v a' ∧ K (a'.put oi.dst v) w') a w := by
  obtain ⟨h1, h2, h3⟩ := Oper.apart_spec hap
  intro w' hw' h0
  have keep : ∀ (a : Act), YieldsJ P ops oF rF oi v a → ∀ u, YieldsJ P ops oF rF oi v (a.put oj.dst u) := fun a hy u =>
    hy.of_same (execOp_put oi hsi a oj.dst u h3) (wanted_put oi a oj.dst u h3)
  have keepD : ∀ d, YieldsJ P ops oF rF oi v { a with defers := d :: a.defers } := fun d => hy.of_same rfl rfl
  have h := h w' hw' h0
  unfold Go.wpOp at *
  simp only [hj] at *
  rw [wanted_put oj a oi.dst v h1] at h
  split
  · rename_i hw
    simp only [hw, if_true] at h
    rcases h with h | ⟨hasks, _, _, hlets⟩
    case inr => exact hlets.elim
    refine .inl ?_
    unfold Oper.wp at *
    rw [execOp_put oj hsj a oi.dst v h1] at h
    generalize (execOp a.eval oj).run P w' = r at *
    cases r with
    | ok n w1 =>
      cases n <;> simp only [Oper.upon] at h ⊢
      case value u => exact ⟨h.1, keep a hy u, by rw [← Act.put_comm a v u h2]; exact h.2⟩
      case skip => exact ⟨h.1, keep a hy _, by rw [← Act.put_comm a v undef h2]; exact h.2⟩
      case defer d =>
        refine ⟨h.1, keep _ (keepD d) _, ?_⟩
        rw [← Act.put_comm _ v undef h2, ← Act.put_defers]
        exact h.2
      case enter f args =>
        refine Calls.mono h fun e w2 he => ?_
        cases e with
        | returned u => exact ⟨he.1, keep a hy u, by rw [← Act.put_comm a v u h2]; exact he.2⟩
        | panicked c => exact he
        | outgrown => exact he
      case row row args => exact Rows.mono h fun u w2 he => ⟨he.1, keep a hy u, by rw [← Act.put_comm a v u h2]; exact he.2⟩
    | halt x w1 =>
      cases x <;> simp only [Oper.upon] at h ⊢
  · rename_i hw
    simp only [hw] at h
    exact ⟨h.1, keep a hy _, by rw [← Act.put_comm a v undef h2]; exact h.2⟩
theorem wpAnyJ_first {n i : Nat} {oi : Oper} {v : Value} {L : Array Bool → Act → World → Prop} (hL : LaterClosed L) (hi : ops[i]? = some oi) (hsel : ∀ (j : Nat) (o : Oper) cs b, ops[j]? = some o → o.op ≠ .select cs b)
    (hnt : ∀ listed, HeadInv md ops n listed → listed.getD i true = false → ∀ j ∈ Region.ready md ops listed, j < n)
    (hdone : ∀ listed a w, L listed a w → ∀ j ∈ Region.ready md ops listed, n ≤ j) (hin : i < n) :
    ∀ (f : Nat) (listed : Array Bool) (a : Act) (w : World), HeadInv md ops n listed →
      (∀ j oj, ops[j]? = some oj → j ≠ i → listed.getD j true = false → (∀ e ∈ oj.after, Region.binds md e = true → e.on ≠ i) → oi.apart ops oj = true) →
      i ∈ Region.ready md ops listed → YieldsJ P ops oF rF oi v a →
      wpAnyJ P md ops oF rF n L f (listed.setIfInBounds i true) (a.put oi.dst v) w → wpAnyJ P md ops oF rF n L (f + 1) listed a w := by
  intro f
  induction f with
  | zero =>
    intro listed a w inv _ hr hy H
    have hun := (mem_ready.1 hr).1
    refine ⟨fun h => (by rw [h] at hr; cases hr), fun j hj => ?_⟩
    have hjn := hnt listed inv hun j hj
    refine ⟨hjn, ?_⟩
    by_cases hji : j = i
    · subst hji; exact hy.canOp hi fun w' hw' => hL _ _ _ _ hw' H
    · have := hdone _ _ _ H j (ready_mono hj hji)
      omega
  | succ f ih =>
    intro listed a w inv hfree hr hy H
    have hun := (mem_ready.1 hr).1
    refine ⟨fun h => (by rw [h] at hr; cases hr), fun j hj => ?_⟩
    have hjn := hnt listed inv hun j hj
    refine ⟨hjn, ?_⟩
    by_cases hji : j = i
    · subst hji; exact hy.canOp hi fun w' hw' => wpAnyJ_later hL _ _ _ _ _ hw' H
    · have h1 := (H.2 j (ready_mono hj hji)).2
      obtain ⟨hjun, oj, hoj, hall⟩ := mem_ready.1 hj
      have hnot : ∀ e ∈ oj.after, Region.binds md e = true → e.on ≠ i := fun e he hb heq => by
        have h1 := hall e he hb
        rw [heq, getD_both hun] at h1
        cases h1
      have h2 := canOp_putJ hoj (hfree j oj hoj hji hjun hnot) (fun cs b => hsel i oi cs b hi) (fun cs b => hsel j oj cs b hoj) hy h1
      have hfree' : ∀ k ok, ops[k]? = some ok → k ≠ i → (listed.setIfInBounds j true).getD k true = false →
          (∀ e ∈ ok.after, Region.binds md e = true → e.on ≠ i) → oi.apart ops ok = true := fun k ok hk hki hun hno => by
        refine hfree k ok hk hki ?_ hno
        by_cases hjk : j = k
        · subst hjk; exact hjun
        · rw [getD_set_ne true hjk] at hun; exact hun
      refine canOpJ_mono (fun a' w' h3 => ih (listed.setIfInBounds j true) a' w' (inv.set hj hjn) hfree' (ready_mono hr (Ne.symm hji)) h3.1 ?_) h2
      rw [Array.setIfInBounds_comm _ _ hji]
      exact h3.2
def wpJ (P : Program) (ops : Array Oper) (oF : List (Nat × Obj)) (rF : List Snap) (K : Act → World → Prop) : Pl → Act → World → Prop
  | .done, a, w => K a w
  | .flt i t, a, w => match ops[i]? with
    | none => False
    | some o => if Region.wanted o (yielded ops a.tmps) then ∃ v, (∀ w', Mem w' oF rF → fltAt P o a w' v) ∧ wpJ P ops oF rF K t (a.put o.dst v) w else wpJ P ops oF rF K t (a.put o.dst undef) w
  | .gr i t e, a, w => (match ops[i]? with
    | none => False
    | some o => if Region.wanted o (yielded ops a.tmps) then ∀ w', Later w w' → o.wp P a w' (fun a'' w'' => Mem w'' oF rF ∧ wpJ P ops oF rF K t a'' w'') (fun _ _ _ => False) else wpJ P ops oF rF K t (a.put o.dst undef) w) ∧ wpJ P ops oF rF K e a w
  | .nil, _, _ => True
theorem wpAnyJ_tree {n : Nat} {Q : Act → World → Prop} (hQ : ∀ a w w', Later w w' → Q a w → Q a w') (hsel : Region.noSelect ops = true)
    (hnt : ∀ i, i < n → ∀ listed, HeadInv md ops n listed → listed.getD i true = false → ∀ j ∈ Region.ready md ops listed, j < n) :
    ∀ (t : Pl) (f : Nat) (listed : Array Bool) (a : Act) (w : World), HeadInv md ops n listed →
      (treeB md ops n false f t listed = true → wpJ P ops oF rF Q t a w → wpAnyJ P md ops oF rF n (fun listed' a' w' => Region.seqB md ops (ops.size - n) n listed' = true ∧ Q a' w') f listed a w) ∧
      (treeB md ops n true f t listed = true → wpJ P ops oF rF Q t a w → ∀ j ∈ t.heads, j ∈ Region.ready md ops listed → 0 < f ∧ j < n ∧ canOpJ P ops oF rF j (wpAnyJ P md ops oF rF n (fun listed' a' w' => Region.seqB md ops (ops.size - n) n listed' = true ∧ Q a' w') (f - 1) (listed.setIfInBounds j true)) a w)
  | .done, f, listed, a, w, _ => ⟨fun hB h => by
      simp only [treeB, Bool.and_eq_true, decide_eq_true_eq] at hB
      obtain ⟨⟨_, rfl⟩, hB⟩ := hB
      exact ⟨hB, h⟩, fun hB => by simp [treeB] at hB⟩
  | .flt i t, f, listed, a, w, inv => ⟨fun hB h => by
      simp only [treeB, Bool.and_eq_true, decide_eq_true_eq] at hB
      obtain ⟨⟨⟨⟨⟨_, hf⟩, hin⟩, hr⟩, hfr⟩, hB'⟩ := hB
      obtain ⟨g, rfl⟩ : ∃ g, f = g + 1 := ⟨f - 1, by omega⟩
      have hr' : i ∈ Region.ready md ops listed := by simpa using hr
      unfold wpJ at h
      cases ho : ops[i]? with
      | none => simp only [ho] at h
      | some o =>
        simp only [ho] at h
        obtain ⟨v, hy, hK⟩ : ∃ v, YieldsJ P ops oF rF o v a ∧ wpJ P ops oF rF Q t (a.put o.dst v) w := by
          by_cases hw : Region.wanted o (yielded ops a.tmps) = true
          · rw [if_pos hw] at h
            obtain ⟨v, h1, h2⟩ := h
            exact ⟨v, .inl ⟨hw, h1⟩, h2⟩
          · rw [if_neg hw] at h
            exact ⟨undef, .inr ⟨by simpa using hw, rfl⟩, h⟩
        exact wpAnyJ_first (fun _ _ _ _ hw hq => ⟨hq.1, hQ _ _ _ hw hq.2⟩) ho (Region.noSelect_spec hsel) (hnt i hin) (fun _ _ _ hL => seqB_ready hL.1) hin g listed a w inv (Region.free_spec ho hfr) hr' hy
          ((wpAnyJ_tree hQ hsel hnt t g _ _ _ (inv.set hr' hin)).1 (by simpa using hB') hK), fun hB => by simp [treeB] at hB⟩
  | .gr i t e, f, listed, a, w, inv => by
      have alt : ∀ alt, treeB md ops n alt f (.gr i t e) listed = true → wpJ P ops oF rF Q (.gr i t e) a w → ∀ j ∈ (Pl.gr i t e).heads, j ∈ Region.ready md ops listed → 0 < f ∧ j < n ∧ canOpJ P ops oF rF j (wpAnyJ P md ops oF rF n (fun listed' a' w' => Region.seqB md ops (ops.size - n) n listed' = true ∧ Q a' w') (f - 1) (listed.setIfInBounds j true)) a w := by
        intro alt hB h j hj hjr
        simp only [treeB, Bool.and_eq_true, decide_eq_true_eq] at hB
        obtain ⟨⟨⟨⟨_, hf⟩, hin⟩, hB1⟩, hB2⟩ := hB
        unfold wpJ at h
        obtain ⟨h1, h2⟩ := h
        simp only [Pl.heads, List.mem_cons] at hj
        by_cases hji : j = i
        · subst hji
          refine ⟨hf, hin, fun w' hw' h0 => ?_⟩
          cases ho : ops[j]? with
          | none => simp only [ho] at h1
          | some o =>
            simp only [ho] at h1
            unfold wpOp
            simp only [ho]
            by_cases hw : Region.wanted o (yielded ops a.tmps) = true
            · rw [if_pos hw] at h1 ⊢
              exact .inl (Oper.wp_mono (fun a' w2 hk => ⟨hk.1, (wpAnyJ_tree hQ hsel hnt t _ _ _ _ (inv.set hjr hin)).1 hB1 hk.2⟩) (h1 w' hw'))
            · rw [if_neg hw] at h1 ⊢
              exact ⟨h0, wpAnyJ_later (fun _ _ _ _ hw hq => ⟨hq.1, hQ _ _ _ hw hq.2⟩) _ _ _ _ _ hw' ((wpAnyJ_tree hQ hsel hnt t _ _ _ _ (inv.set hjr hin)).1 hB1 h1)⟩
        · have hj' : j ∈ e.heads := by rcases hj with h | h; exact absurd h hji; exact h
          exact (wpAnyJ_tree hQ hsel hnt e f listed a w inv).2 hB2 h2 j hj' hjr
      refine ⟨fun hB h => ?_, alt true⟩
      have hB0 := hB
      simp only [treeB, Bool.and_eq_true, decide_eq_true_eq, Bool.false_or] at hB
      obtain ⟨⟨⟨⟨⟨hall, hne⟩, hf⟩, _⟩, _⟩, _⟩ := hB
      obtain ⟨g, rfl⟩ : ∃ g, f = g + 1 := ⟨f - 1, by omega⟩
      refine ⟨fun h0 => by rw [h0] at hne; simp at hne, fun j hj => ?_⟩
      have hjh : j ∈ (Pl.gr i t e).heads := by simpa using List.all_eq_true.1 hall j hj
      exact (alt false hB0 h j hjh hj).2
  | .nil, f, listed, a, w, _ => ⟨fun hB => by simp [treeB] at hB, fun _ _ j hj => by simp [Pl.heads] at hj⟩
theorem wp_region_inv {id : Nat} {Q : Exit → Act → World → Prop} {a : Act} {w : World} {l : List Oper} (n : Nat) (t : Pl) (hm : P.follows .mixedOrders = true)
    (hB : (Region.noSelect l.toArray && (decide (n = l.toArray.size) || (decide (n < l.toArray.size) && Region.sinkB .any l.toArray n && Region.chainB .any l.toArray n)) && treeB .any l.toArray n false n t (Array.replicate l.toArray.size false)) = true)
    (hw : Mem w oF rF) (h : wpJ P l.toArray oF rF (fun a' w' => ∀ w'', Later w' w'' → wpList P l.toArray Q (l.drop n) a' w'') t a w) : (Code.region id l.toArray true).wp P Q a w := by
  simp only [Bool.and_eq_true] at hB
  obtain ⟨⟨hsel, hn⟩, hpl⟩ := hB
  have hnle : n ≤ l.toArray.size := by
    rcases Bool.or_eq_true _ _ ▸ hn with hn | hn
    · simp only [decide_eq_true_eq] at hn; omega
    · simp only [Bool.and_eq_true, decide_eq_true_eq] at hn; omega
  have hnt : ∀ i, i < n → ∀ listed, HeadInv .any l.toArray n listed → listed.getD i true = false → ∀ j ∈ Region.ready .any l.toArray listed, j < n := by
    intro i hin listed inv hun j hj
    rcases Bool.or_eq_true _ _ ▸ hn with hn | hn
    · simp only [decide_eq_true_eq] at hn
      have := ready_lt j hj
      omega
    · simp only [Bool.and_eq_true, decide_eq_true_eq] at hn
      obtain ⟨⟨hn, hs⟩, hc⟩ := hn
      rcases Nat.lt_or_ge j n with h | h
      · exact h
      · exact absurd hj (tail_waits hs hc hn inv _ i rfl hin hun j h)
  have inv0 : HeadInv .any l.toArray n (Array.replicate l.toArray.size false) :=
    ⟨by simp, fun j oj _ hl => (by rw [getD_replicate_false] at hl; cases hl), fun t _ ht => getD_in (by simpa using ht) (getD_replicate_false _ _)⟩
  have H := (wpAnyJ_tree (P := P) (md := .any) (oF := oF) (rF := rF) (Q := fun a' w' => ∀ w'', Later w' w'' → wpList P l.toArray Q (l.drop n) a' w'') (fun a w w' hw hq w'' hw'' => hq w'' (hw.trans hw'')) hsel hnt t n _ a w inv0).1 hpl h
  refine wp_region_any hm ?_
  have hdl : (l.drop n).length = l.toArray.size - n := by simp
  have := wpAny_of_canJ (Q' := Q) (g := l.toArray.size - n) (oF := oF) (rF := rF) (fun listed a' w' _ hL => by
    have := wpAny_of_seq (md := .any) (Q' := Q) (l.drop n) n listed a' w' (fun j => by simp [List.getElem?_drop]) (by rw [hdl]; exact hL.1) (hL.2 w' (Later.refl _))
    rwa [hdl] at this) _ _ _ _ (hw.later (Later.drew w)) (wpAnyJ_later (fun _ _ _ _ hw hq => ⟨hq.1, fun w2 h2 => hq.2 w2 (hw.trans h2)⟩) _ _ _ _ _ (Later.drew w) H)
  rw [show n + (l.toArray.size - n) = l.toArray.size by omega] at this
  exact this
end
section
variable {P : Program} {n : Nat} {l : List (Nat × Value)} {own oF : List (Nat × Obj)} {ro : List Snap} {lops : List Oper} {Q : Exit → Act → World → Prop} {K : Act → World → Prop} {i d : Nat} {t e : Pl} {op : Op} {ty : TypeId} {pos : String} {af : Array Edge}
/-- A region that draws its order and turns blocks of the call's own: oF are those that it lets alone. -/
theorem rg_inv {id : Nat} {Q : Exit → Act → World → Prop} (oF : List (Nat × Obj)) (m : Nat) (t : Pl) (hsub : oF.Sublist own) (hm : P.follows .mixedOrders = true)
    (hB : (Region.noSelect lops.toArray && (decide (m = lops.toArray.size) || (decide (m < lops.toArray.size) && Region.sinkB .any lops.toArray m && Region.chainB .any lops.toArray m)) && treeB .any lops.toArray m false m t (Array.replicate lops.toArray.size false)) = true)
    (h : S (wpJ P lops.toArray oF ro (fun a' w' => ∀ w'', Later w' w'' → wpList P lops.toArray Q (lops.drop m) a' w'') t) n l own ro) : W P (.region id lops.toArray true) Q n l own ro :=
  fun a w ha hw => wp_region_inv m t hm hB (hw.less hsub (fun _ h => h)) (h a w ha hw)
theorem j_run {o : Oper} (ho : lops[i]? = some o) (hgo : Go_ lops n l o) (hd0 : o.dst = some d) (hd : decide (d < n) = true) {v : Value} (hv : OpV P n l oF ro o.op o.type v)
    (h : S (wpJ P lops.toArray oF ro K t) n ((d, v) :: l) own ro) : S (wpJ P lops.toArray oF ro K (.flt i t)) n l own ro := fun a w ha hw => by
  have hd' : d < n := of_decide_eq_true hd
  unfold wpJ
  simp only [List.getElem?_toArray, ho]
  rw [if_pos (hgo a ha)]
  refine ⟨v, fun w' hw' => ?_, by rw [hd0]; exact h _ w (ha.put v hd') hw⟩
  unfold fltAt
  rw [hv a w' _ ha hw' rfl rfl]
  exact ⟨rfl, rfl⟩
theorem j_val (ho : lops[i]? = some ⟨some d, op, ty, pos, af, none⟩) (hd : decide (d < n) = true) {v : Value} (hv : OpV P n l oF ro op ty v)
    (h : S (wpJ P lops.toArray oF ro K t) n ((d, v) :: l) own ro) : S (wpJ P lops.toArray oF ro K (.flt i t)) n l own ro := j_run ho (go_none rfl) rfl hd hv h
theorem j_bool (ho : lops[i]? = some ⟨some d, op, ty, pos, af, none⟩) (hd : decide (d < n) = true) {b : Bool} (hv : OpV P n l oF ro op ty (.bool b))
    (h : ∀ c, c = b → S (wpJ P lops.toArray oF ro K t) n ((d, .bool c) :: l) own ro) : S (wpJ P lops.toArray oF ro K (.flt i t)) n l own ro := j_val ho hd hv (h b rfl)
theorem j_callv {f : FuncId} {fn : Func} {xs : Array Operand} {tys : Array TypeId} {vs : List Value} (ho : lops[i]? = some ⟨some d, .call ⟨.value (.func f), xs, tys⟩, ty, pos, af, none⟩) (hd : decide (d < n) = true)
    (hf : P.funcs[f]? = some fn) (hbody : (!(fn.name == "runtime.NumGoroutine") && fn.body.isSome) = true) (hx : evs l xs.toList = some vs) {v : Value}
    (hc : ∀ w, Mem w oF ro → Calls P f vs.toArray w fun e w' => e = .returned v ∧ Later w w')
    (h : S (wpJ P lops.toArray oF ro K t) n ((d, v) :: l) own ro) : S (wpJ P lops.toArray oF ro K (.flt i t)) n l own ro := fun a w ha hw => by
  have hd' : d < n := of_decide_eq_true hd
  unfold wpJ
  simp only [List.getElem?_toArray, ho]
  rw [if_pos (go_none (lops := lops) (n := n) (l := l) (o := ⟨some d, .call ⟨.value (.func f), xs, tys⟩, ty, pos, af, none⟩) rfl a ha)]
  refine ⟨v, fun w' hw' => ?_, h _ w (ha.put v hd') hw⟩
  unfold fltAt
  rw [run_callv (c := .func f) (fst := #[]) (cap := #[]) rfl ha rfl hf hbody hx]
  have := hc w' hw'
  exact ⟨rfl, by simpa using this⟩
/-- An operation that turns a block, or makes one. -/
theorem j_gr (h : WX P lops.toArray (fun _ _ _ => False) (fun a w => Mem w oF ro ∧ wpJ P lops.toArray oF ro K t a w) [(none, i)] n l own ro) (he : S (wpJ P lops.toArray oF ro K e) n l own ro) : S (wpJ P lops.toArray oF ro K (.gr i t e)) n l own ro := fun a w ha hw => by
  have h := h a w ha hw
  unfold wpJ
  refine ⟨?_, he a w ha hw⟩
  simp only [wpX] at h
  split <;> rename_i ho <;> simp only [ho] at h
  split <;> rename_i hw'
  · intro w2 h2
    have h := h w2 h2
    rw [if_pos hw'] at h
    exact Oper.wp_mono (fun a' w' hk => hk w' (Later.refl _)) h
  · have h := h w (Later.refl _)
    rw [if_neg hw'] at h
    exact (h w (Later.refl _)).2
theorem j_end (hsub : oF.Sublist own) (h : S (wpJ P lops.toArray oF ro K t) n l own ro) : S (fun a w => Mem w oF ro ∧ wpJ P lops.toArray oF ro K t a w) n l own ro := fun a w ha hw => ⟨hw.less hsub (fun _ h => h), h a w ha hw⟩
theorem j_nil : S (wpJ P lops.toArray oF ro K .nil) n l own ro := fun _ _ _ _ => trivial
theorem j_done {m : Nat} (h : WX P lops.toArray Q (fun a w => Q .normal a w) (tailFrom m lops.length) n l own ro) :
    S (wpJ P lops.toArray oF ro (fun a' w' => ∀ w'', Later w' w'' → wpList P lops.toArray Q (lops.drop m) a' w'') .done) n l own ro :=
  fun a w ha hw w2 h2 => wpList_of_X _ m a w2 rfl (wpX_later h2 (h a w ha hw))
end
end Go.PK

/- Of the proofs of YtbamklefagghcaaGreatDoor; see NOTES.md. -/
/-! Messages: the reader of the reference. -/
namespace Go.PK
open Go Go.RowKit
set_option linter.unusedVariables false
theorem hasU_take {l : List UInt8} {k : Nat} {c : UInt8} (hk : k ≤ l.length) : hasU (l.take k) c = true ↔ ∃ j, j < k ∧ l.getD j 0 = c := by
  unfold hasU
  rw [List.any_eq_true]
  constructor
  · rintro ⟨x, hx, he⟩
    obtain ⟨j, hj, rfl⟩ := List.mem_iff_getElem.1 hx
    rw [List.length_take] at hj
    refine ⟨j, by omega, ?_⟩
    rw [List.getElem_take] at he
    rw [List.getD_eq_getElem?_getD, List.getElem?_eq_getElem (by omega)]
    exact (of_decide_eq_true he).symm
  · rintro ⟨j, hj, rfl⟩
    have hj2 : j < l.length := by omega
    refine ⟨l.getD j 0, ?_, by simp⟩
    rw [List.getD_eq_getElem?_getD, List.getElem?_eq_getElem hj2]
    exact List.mem_take_iff_getElem.2 ⟨j, by omega, rfl⟩
theorem gcells_at (g : Sg) {k : Nat} (h : k < 4) : g.cells[k]? = some (.int .u8 (((gl g).getD k 0).toNat : Nat)) := by
  match k, h with
  | 0, _ => rfl
  | 1, _ => rfl
  | 2, _ => rfl
  | 3, _ => rfl
theorem str_push (bs : List UInt8) (c : UInt8) : (⟨bs.toArray⟩ : ByteArray) ++ ⟨[c].toArray⟩ = ⟨(bs ++ [c]).toArray⟩ := by
  rw [ByteArray.ext_iff]; simp
theorem extract_byte {s : ByteArray} {x : Nat} (h : x < s.size) : s.extract x (x + 1) = ⟨[byteAt s x].toArray⟩ := by
  rw [ByteArray.ext_iff]
  have hx : x < s.data.size := h
  apply Array.ext
  · simp only [ByteArray.data_extract, Array.size_extract, List.size_toArray, List.length_singleton]; omega
  · intro i h1 h2
    obtain rfl : i = 0 := by simpa using h2
    simp only [ByteArray.data_extract, Array.getElem_extract, Nat.add_zero]
    show s.data[x] = byteAt s x
    unfold byteAt
    rw [List.getD_eq_getElem?_getD, List.getElem?_eq_getElem (by simpa using hx)]
    simp
theorem str_cut {s : ByteArray} {x : Nat} (bs : List UInt8) (h : x < s.size) : (⟨bs.toArray⟩ : ByteArray) ++ s.extract x (x + 1) = ⟨(bs ++ [byteAt s x]).toArray⟩ := by rw [extract_byte h, str_push]
/-- What is left to read from the middle of a text. -/
def contP (s : ByteArray) (g : Sg) (x : Nat) (bs : List UInt8) (out : List (List ByteArray)) : ElR :=
  match pieceP s g x bs with
  | none => none
  | some (t, c, a) => elP s g c a (addLast out ⟨t.toArray⟩)
theorem el_cont {s : ByteArray} {g : Sg} {c : UInt8} {x : Nat} {out : List (List ByteArray)} (h : ¬c = g.n) : elP s g c x out = contP s g x [] (newEl g c out) := by
  rw [el_eq, if_neg h]; rfl
theorem cont_rel {s : ByteArray} {g : Sg} {x : Nat} {bs : List UInt8} {out : List (List ByteArray)} (h : x < s.size) (h1 : ¬(byteAt s x = g.c ∨ byteAt s x = g.e ∨ byteAt s x = g.n)) (h2 : byteAt s x = g.r) (h3 : ¬x + 1 = s.size) : contP s g x bs out = contP s g (x + 2) (bs ++ [byteAt s (x + 1)]) out := by
  unfold contP; rw [piece_eq s g x, if_pos h, if_neg h1, if_pos h2, if_neg h3]
theorem cont_end {s : ByteArray} {g : Sg} {x : Nat} {bs : List UInt8} {out : List (List ByteArray)} (h : x < s.size) (h1 : ¬(byteAt s x = g.c ∨ byteAt s x = g.e ∨ byteAt s x = g.n)) (h2 : byteAt s x = g.r) (h3 : x + 1 = s.size) : contP s g x bs out = none := by
  unfold contP; rw [piece_eq s g x, if_pos h, if_neg h1, if_pos h2, if_pos h3]
theorem cont_byte {s : ByteArray} {g : Sg} {x : Nat} {bs : List UInt8} {out : List (List ByteArray)} (h : x < s.size) (h1 : ¬(byteAt s x = g.c ∨ byteAt s x = g.e ∨ byteAt s x = g.n)) (h2 : ¬byteAt s x = g.r) : contP s g x bs out = contP s g (x + 1) (bs ++ [byteAt s x]) out := by
  unfold contP; rw [piece_eq s g x, if_pos h, if_neg h1, if_neg h2]
theorem cont_sep {s : ByteArray} {g : Sg} {x : Nat} {bs : List UInt8} {out : List (List ByteArray)} (h : x < s.size) (h1 : byteAt s x = g.c ∨ byteAt s x = g.e ∨ byteAt s x = g.n) : contP s g x bs out = elP s g (byteAt s x) (x + 1) (addLast out ⟨bs.toArray⟩) := by
  unfold contP; rw [piece_eq s g x, if_pos h, if_pos h1]
theorem cont_none {s : ByteArray} {g : Sg} {x : Nat} {bs : List UInt8} {out : List (List ByteArray)} (h : ¬x < s.size) : contP s g x bs out = none := by
  unfold contP; rw [piece_eq s g x, if_neg h]
theorem addLast_ne {out : List (List ByteArray)} {t : ByteArray} (h : out ≠ []) : addLast out t ≠ [] := by
  obtain ⟨ys, y, rfl⟩ : ∃ ys y, out = ys ++ [y] := ⟨_, _, (List.dropLast_concat_getLast h).symm⟩
  rw [addLast_snoc]; simp
theorem open_right (s : ByteArray) {g : Sg} {a : Nat} (h : (openR s).1 = some (g, a)) : rightS g := by
  unfold openR at h
  split at h
  · split at h
    · cases h
    · split at h
      · rename_i hr; injection h with h; injection h with h1 h2; exact h1 ▸ hr
      · cases h
  · injection h with h; injection h with h1 h2; subst h1; decide
theorem tagAt_cut {s : ByteArray} {k : Nat} (h : k + 3 ≤ s.size) : tagAt s k = s.extract k (k + 3) := by unfold tagAt; rw [Nat.min_eq_left h]
end Go.PK

/- Of the proofs of YtbamklefagghcaaGreatDoor; see NOTES.md. -/
/-! 'append(b, s...)', s a string. -/
namespace Go.PK
open Go Go.RowKit
set_option linter.unusedVariables false
theorem strCells_byC (s : ByteArray) : Lib.strCells s = byC s.data.toList := rfl
theorem append_str_block {P : Program} {w w' : World} (t u ty e : TypeId) (i : TypeInfo) (ht : P.underlying t = some (.slice e)) (hu : P.underlying u = some .string) (hi : P.info? e = some i) (hz : i.zero = some (.int .u8 0)) (hsize : i.size = 1) (hby : i.bytes = 1)
    (v v' : Value) (n : Nat) (xs : List Value) (hown : w.ownsRow 0 e 1 v n xs) (s : ByteArray) (h63 : n + s.size ≤ maxLen) (hbytes : n + s.size ≤ 140737488355328)
    (hr : (Builtin.append_ #[t, u] ty #[v, .string s]).run P w = .ok v' w') (h4 : v' = .slice none 0 0 ↔ v = .slice none 0 0 ∧ s.size = 0) : v'.ownBlock = v.ownBlock ∨ v'.ownBlock = some w.heap.size := by
  have hxl : xs.length = n := by simpa using hown.1
  simp only [maxLen] at h63
  rcases hown.2 with ⟨rfl, rfl⟩ | ⟨g, cap, cur, rfl, _, hg, hnc, hcm, hcs, htake⟩
  · by_cases hm : s.size = 0
    · exact .inl (by rw [h4.2 ⟨rfl, hm⟩])
    · have h2 := run_append_nil_string (P := P) w t u ty e i (.int .u8 0) ht hu hi hz s (by omega) (by omega) (by rw [hby]; omega)
      rw [h2] at hr
      injection hr with h5 h6
      exact .inr (by rw [← h5]; rfl)
  · by_cases hroom : n + s.size ≤ cap
    · have h2 := Lib.run_append_room_string (P := P) w t u ty e i ht hu hi hsize g n cap cur hg s hroom (by omega)
      rw [h2] at hr
      injection hr with h5 h6
      exact .inl (by rw [← h5]; rfl)
    · have holds : ∀ j u, xs[j]? = some u → w.cell? ((⟨g, 0, none⟩ : Addr).add j) = some u := World.ownsRow.cells hown (g := g) rfl
      have h2 := Lib.run_append_grow_string (P := P) w t u ty e i (.int .u8 0) ht hu hi hz ⟨g, 0, none⟩ n cap xs (by rw [hsize]; simpa using hxl) holds s (by omega) (by omega) (by rw [hby]; exact growslice_fits (by omega) (by omega))
      rw [h2] at hr
      injection hr with h5 h6
      exact .inr (by rw [← h5]; rfl)
section
variable {P : Program} {b off : Nat} {t' : TypeId} {n : Nat} {l : List (Nat × Value)} {own : List (Nat × Obj)} {ro : List Snap} {lops : List Oper} {Q : Exit → Act → World → Prop} {K : Act → World → Prop}
  {rest : List (Option Bool × Nat)} {k : Option Bool} {i d : Nat} {ty t u : TypeId} {pos : String} {af : Array Edge} {x y : Operand}
theorem x_append_str {e : TypeId} {len : Nat} {xs : List Value} {s : ByteArray} (l1 : List (Nat × Obj)) {l2 : List (Nat × Obj)} (r : RowS) (ho : lops[i]? = some ⟨some d, .call ⟨.builtin .append, #[x, y], #[t, u]⟩, ty, pos, af, none⟩) (hd : decide (d < n) = true)
    (hx : ev l x = some (rowV r len)) (hy : ev l y = some (.string s)) (hown : own = l1 ++ rowO e r ++ l2) (hr : rowOK 1 r len xs)
    (ht : P.underlying t = some (.slice e)) (hu : P.underlying u = some .string) (hi : (P.info? e).map (fun j => (j.zero, j.size, j.bytes)) = some (some (.int .u8 0), 1, 1))
    (hb1 : len + s.size ≤ maxLen) (hb2 : len + s.size ≤ 140737488355328)
    (h : ∀ r', rowOK 1 r' (len + s.size) (xs ++ byC s.data.toList) → WX P lops.toArray Q K rest n ((d, rowV r' (len + s.size)) :: l) (l1 ++ rowO e r' ++ l2) ro) : WX P lops.toArray Q K ((none, i) :: rest) n l own ro := by
  subst hown
  intro a w ha hw
  have hd' : d < n := of_decide_eq_true hd
  have hw1 := go_none (lops := lops) (n := n) (l := l) (o := ⟨some d, .call ⟨.builtin .append, #[x, y], #[t, u]⟩, ty, pos, af, none⟩) rfl a ha
  simp only [wpX, List.getElem?_toArray, ho]
  intro w' hl'
  rw [if_pos hw1]
  have hM := hw.later hl'
  obtain ⟨inf, hi1, hi2⟩ := Option.map_eq_some_iff.1 hi
  simp only [Prod.mk.injEq] at hi2
  obtain ⟨hiz, his, hib⟩ := hi2
  have hown := row_owns (own := []) hM hr
  obtain ⟨v', w2, hrun, h2, h3, h4⟩ := Lib.run_append_own_string (P := P) w' 0 t u ty e inf ht hu hi1 hiz his hib (rowV r len) len xs hown s hb1 hb2 (Nat.zero_le _)
  have h5 := append_str_block (P := P) t u ty e inf ht hu hi1 hiz his hib _ v' len xs hown s hb1 hb2 hrun h4
  obtain ⟨r', rfl, hok, hM2⟩ := hM.append h2 h3 h5
  unfold Oper.wp execOp
  simp only [resolve, invoke, builtin, Sem.run_bind, Sem.run_pure, Result.andThen_ok, List.map_toArray, List.map_cons, List.map_nil, ha.eval hx, ha.eval hy, hrun]
  exact h r' hok _ _ (ha.put _ hd') hM2
/-- '[]byte(s)' under a guard that holds. -/
theorem x_bytes_g {jj dj : Nat} {want : Bool} {e : TypeId} {s : ByteArray} {u : TypeDesc} (ho : lops[i]? = some ⟨some d, .convert t t' x, ty, pos, af, some (jj, want)⟩) (hj : (lops[jj]?).bind (·.dst) = some dj) (hb : l.lookup dj = some (.bool want)) (hk : (k == some true) = false) (hd : decide (d < n) = true)
    (hs : P.underlying t = some u) (hd2 : P.underlying t' = some (.slice e)) (he : P.underlying e = some (.int .u8)) (hx : ev l x = some (.string s))
    (h : ∀ b cp (cs : List Value) fz, s.size ≤ cp → cs.take s.size = byC s.data.toList → WX P lops.toArray Q K rest n ((d, .slice (some ⟨b, 0, none⟩) s.size cp) :: l) ((b, .cells cs.toArray e fz) :: own) ro) : WX P lops.toArray Q K ((k, i) :: rest) n l own ro := by
  intro a w ha hw
  have hd' : d < n := of_decide_eq_true hd
  have hw1 := go_some (lops := lops) (n := n) (l := l) (o := ⟨some d, .convert t t' x, ty, pos, af, some (jj, want)⟩) rfl hj hb a ha
  simp only [wpX, List.getElem?_toArray, ho]
  have hlat : ∀ w', Later w' (Lib.bytesWorld w' e s) := fun w' => ⟨rfl, rfl, rfl, by rw [Lib.bytesWorld_size]; omega, fun j hj => Lib.bytesWorld_at_old w' e s j hj⟩
  have hrun : ∀ w', (execOp a.eval ⟨some d, .convert t t' x, ty, pos, af, some (jj, want)⟩).run P w' = .ok (.value (.slice (some ⟨w'.heap.size, 0, none⟩) s.size (grownCap w' s.size 0 e))) (Lib.bytesWorld w' e s) := fun w' => by
    simp [execOp, ha.eval hx, Lib.run_convert_string_bytes w' t t' e s hs hd2 he]
  have key : ∀ w', Later w w' → wpX P lops.toArray Q K rest (a.put (some d) (.slice (some ⟨w'.heap.size, 0, none⟩) s.size (grownCap w' s.size 0 e))) (Lib.bytesWorld w' e s) := fun w' hl => by
    have hM := hw.later hl
    refine h _ _ (Lib.bytesCells w' e s).toList ((Lib.bytesCells w' e s).size, (Lib.bytesCells w' e s).size + 1) (grownCap_ge _ _ _ _) ?_ _ _ (ha.put _ hd') ?_
    · unfold Lib.bytesCells byC
      have : (s.data.map fun b => Value.int .u8 b.toNat).toList.length = s.size := by simp
      rw [Array.toList_append, ← this, List.take_left]
      simp
    · have hl2 := hlat w'
      have h2 := hM.later hl2
      refine ⟨fun p hp => ?_, ?_, h2.ro_st, h2.ro_at, fun p hp s' hs' hdd => ?_⟩
      · rcases List.mem_cons.1 hp with rfl | hp
        · simpa using Lib.bytesWorld_at_new w' e s
        · exact h2.own_at p hp
      · simp only [List.map_cons, List.nodup_cons]
        refine ⟨fun hm => ?_, h2.own_nd⟩
        obtain ⟨p, hp, he'⟩ := List.mem_map.1 hm
        have := hM.lt hp
        omega
      · rcases List.mem_cons.1 hp with rfl | hp
        · exact (hM.ro_st s' hs').2.2.2
        · exact h2.apart p hp s' hs' hdd
  cases k with
  | none =>
    intro w' hl
    rw [if_pos hw1]
    unfold Oper.wp
    rw [hrun]
    exact key w' hl
  | some b0 =>
    have : b0 = false := by cases b0 <;> simp_all
    subst this
    dsimp only
    rw [if_pos hw1]
    intro w' hl
    unfold Oper.wp
    rw [hrun]
    exact ⟨hlat w', key w' hl⟩
end
/-- 'string(b)' of a row of the call's own, also of an empty one. -/
theorem v_toStrR {P : Program} {n : Nat} {l : List (Nat × Value)} {own : List (Nat × Obj)} {ro : List Snap} {ty t t' : TypeId} {x : Operand} {e E : TypeId} {m : Nat} {r : RowS} (bs : List UInt8) (hs : P.underlying t = some (.slice e)) (he : P.underlying e = some (.int .u8)) (hd : P.underlying t' = some .string) (hx : ev l x = some (rowV r m)) (hr : rowOK 1 r m (byC bs)) (hm : m = bs.length)
    (hown : ∀ q ∈ rowO E r, q ∈ own) : OpV P n l own ro (.convert t t' x) ty (.string ⟨bs.toArray⟩) := by
  subst hm
  cases r with
  | none =>
    have h0 : bs = [] := List.eq_nil_of_length_eq_zero hr.2
    subst h0
    intro A w o ha hw ho _
    have h1 := run_convert_bytes_nil (P := P) w t e hs he ([] : List UInt8).length 0 t' hd
    have hx2 : A.eval x = .slice none ([] : List UInt8).length 0 := ha.eval hx
    simp only [execOp, ho, hx2, h1, Sem.run_bind, Result.andThen_ok]
    rfl
  | some z =>
    obtain ⟨b, cs, c⟩ := z
    obtain ⟨h1, h2, h3, h4, h5⟩ := hr
    dsimp only at h2 h3 h4 h5
    refine v_toStr (b := b) (off := 0) bs hs he hd hx rfl fun j hj => at_ownL (vs := cs) (hown (b, Obj.cells cs.toArray E (0, 0)) (by simp [rowO])) ?_
    have h6 := byC_at hj
    rw [← h5, List.getElem?_take, if_pos (by omega)] at h6
    rw [Nat.zero_add]; exact h6
theorem calls_cl {P : Program} {f : FuncId} {v : Value} {w : World} {Q : Ending → World → Prop} (h : Calls P f #[v] w Q) : Calls P f (#[v] ++ #[]) w Q := by simpa using h
theorem bytes_rd {D : Nat → Prop} {w : World} {b n cp : Nat} {cs : List Value} {e : TypeId} {fz : Nat × Nat} {xs : List UInt8} (h0 : w.heap[b]? = some (.cells cs.toArray e fz)) (hn : n = xs.length) (ht : cs.take n = byC xs) (hc : n ≤ cp) (hm : n ≤ 9223372036854775807) (hD : D b) :
    sliceRd tyB D w (.slice (some ⟨b, 0, none⟩) n cp) xs := by
  subst hn
  refine ⟨_, _, rfl, hc, hm, fun h => ⟨b, 0, rfl, hD, heap_lt h0, fun j hj => ⟨_, fun i hi => ?_, rfl⟩⟩⟩
  have hi : i = 0 := by simpa using hi
  subst hi
  have h1 : cs[j]? = some (.int .u8 xs[j].toNat) := by
    have h2 := byC_at hj
    rw [← ht, List.getElem?_take, if_pos hj] at h2
    exact h2
  rw [Nat.zero_add, Nat.add_zero, show tyB.size = 1 from rfl, Nat.mul_one, cell_of_row w b _ cs.toArray e fz h0, List.getElem?_toArray]
  simpa using h1
end Go.PK

/- Of the proofs of YtbamklefagghcaaGreatDoor; see NOTES.md. -/
/-! Messages: the plain functions of chapter 22 (writing). -/
namespace Go.PK
open Go Go.RowKit
set_option linter.unusedVariables false
def bl (s : ByteArray) : List UInt8 := s.data.toList
theorem bl_len (s : ByteArray) : (bl s).length = s.size := by unfold bl; simp
theorem bl_str (s : ByteArray) : (⟨(bl s).toArray⟩ : ByteArray) = s := by unfold bl; simp
theorem bl_mk (l : List UInt8) : bl ⟨l.toArray⟩ = l := by unfold bl; simp
theorem bl_get {s : ByteArray} {k : Nat} (h : k < (bl s).length) : (bl s)[k] = byteAt s k := by
  unfold bl byteAt at *; rw [List.getD_eq_getElem?_getD, List.getElem?_eq_getElem h]; rfl
theorem str_app (bs : List UInt8) (s : ByteArray) : (⟨bs.toArray⟩ : ByteArray) ++ s = ⟨(bs ++ bl s).toArray⟩ := by
  rw [ByteArray.ext_iff]; simp [bl]
def escB (c : UInt8) : List UInt8 := if signB c then [63, c] else [c]
def escL (l : List UInt8) : List UInt8 := l.flatMap escB
theorem escL_cons (c : UInt8) (l : List UInt8) : escL (c :: l) = escB c ++ escL l := rfl
def elT (c : UInt8) : List ByteArray → List UInt8
  | [] => []
  | t :: ts => c :: (escL (bl t) ++ elT 58 ts)
def sgT (x : Seg) : List UInt8 := bl x.tag ++ (x.els.flatMap (elT 43) ++ [39])
def rightSg (x : Seg) : Bool := decide (x.tag.size = 3) && !(bl x.tag).any (fun c => !capB c) && !x.els.any List.isEmpty
def unaT : ByteArray := ⟨#[85, 78, 65]⟩
def goodW (k : Nat) (x : Seg) : Prop := rightSg x = true ∧ ¬(k = 0 ∧ x.tag = unaT)
instance (k : Nat) (x : Seg) : Decidable (goodW k x) := by unfold goodW; infer_instance
abbrev WrR := ByteArray × Int
def wrT (l : List Seg) : List UInt8 := l.flatMap sgT
/-- Segments, written. -/
def wrR (l : List Seg) : WrR :=
  if l.length > 10000 then (⟨#[]⟩, 2)
  else if ∀ k (h : k < l.length), goodW k l[k] then (⟨(wrT l).toArray⟩, 0) else (⟨#[]⟩, 1)
theorem wrR_many {l : List Seg} (h : l.length > 10000) : wrR l = (⟨#[]⟩, 2) := by unfold wrR; rw [if_pos h]
theorem wrR_bad {l : List Seg} {k : Nat} (h : ¬l.length > 10000) (hk : k < l.length) (hb : ¬goodW k l[k]) : wrR l = (⟨#[]⟩, 1) := by
  unfold wrR; rw [if_neg h, if_neg (fun h2 => hb (h2 k hk))]
theorem wrR_ok {l : List Seg} (h : ¬l.length > 10000) (hg : ∀ k (h : k < l.length), goodW k l[k]) : wrR l = (⟨(wrT l).toArray⟩, 0) := by
  unfold wrR; rw [if_neg h, if_pos hg]
theorem wrT_drop {l : List Seg} {k : Nat} (h : k < l.length) : wrT (l.drop k) = bl l[k].tag ++ (l[k].els.flatMap (elT 43) ++ ([39] ++ wrT (l.drop (k + 1)))) := by
  unfold wrT; rw [List.drop_eq_getElem_cons h, List.flatMap_cons]; unfold sgT; simp only [List.append_assoc]
theorem els_drop {x : List (List ByteArray)} {j : Nat} (h : j < x.length) : (x.drop j).flatMap (elT 43) = elT 43 x[j] ++ (x.drop (j + 1)).flatMap (elT 43) := by
  rw [List.drop_eq_getElem_cons h, List.flatMap_cons]
theorem elT_drop {e : List ByteArray} {i : Nat} {c : UInt8} (h : i < e.length) : elT c (e.drop i) = c :: (escL (bl e[i]) ++ elT 58 (e.drop (i + 1))) := by
  rw [List.drop_eq_getElem_cons h]; rfl
theorem esc_drop {t : ByteArray} {m : Nat} (h : m < t.size) : escL ((bl t).drop m) = escB (byteAt t m) ++ escL ((bl t).drop (m + 1)) := by
  have h2 : m < (bl t).length := by rw [bl_len]; exact h
  rw [List.drop_eq_getElem_cons h2, escL_cons, bl_get h2]
theorem drop_all {α : Type} {l : List α} {k : Nat} (h : ¬k < l.length) : l.drop k = [] := List.drop_eq_nil_of_le (by omega)
theorem rightSg_tag {x : Seg} (h : rightSg x = true) : x.tag.size = 3 := by
  unfold rightSg at h; simp only [Bool.and_eq_true, decide_eq_true_eq] at h; exact h.1.1
theorem usual_sign (c : UInt8) : hasU (gl usualG) c = signB c := by
  unfold hasU gl usualG signB; simp [Bool.or_assoc]
theorem Mem.perm {w : World} {own own' : List (Nat × Obj)} {ro : List Snap} (h : Mem w own ro) (p : own.Perm own') : Mem w own' ro where
  own_at := fun q hq => h.own_at q (p.mem_iff.2 hq)
  own_nd := (p.map (·.1)).nodup_iff.1 h.own_nd
  ro_st := h.ro_st
  ro_at := h.ro_at
  apart := fun q hq => h.apart q (p.mem_iff.2 hq)
theorem len_le {a b c : List UInt8} {N : Nat} (h : a ++ b = c) (hc : c.length ≤ N) : a.length ≤ N := by
  have := congrArg List.length h; rw [List.length_append] at this; omega
theorem mk_size (l : List UInt8) : (⟨l.toArray⟩ : ByteArray).size = l.length := List.size_toArray
theorem str_app2 (a b : List UInt8) : (⟨a.toArray⟩ : ByteArray) ++ ⟨b.toArray⟩ = ⟨(a ++ b).toArray⟩ := by rw [str_app, bl_mk]
theorem any3 : ∀ (l : List UInt8), l.length = 3 → l.any (fun c => !capB c) = !(capB (l.getD 0 0) && capB (l.getD 1 0) && capB (l.getD 2 0))
  | [a, b, c], _ => by simp [Bool.not_and, Bool.or_assoc]
theorem any_cap {t : ByteArray} (h : t.size = 3) : (bl t).any (fun c => !capB c) = !(capB (byteAt t 0) && capB (byteAt t 1) && capB (byteAt t 2)) := any3 (bl t) (by rw [bl_len, h])
theorem esc_len : ∀ (l : List UInt8), l.length ≤ (escL l).length
  | [] => Nat.le_refl _
  | c :: l => by
    have := esc_len l
    have h2 : 1 ≤ (escB c).length := by unfold escB; split <;> simp
    rw [escL_cons, List.length_append, List.length_cons]; omega
def sepB (i : Nat) : UInt8 := if i = 0 then 43 else 58
end Go.PK

/- Of the proofs of YtbamklefagghcaaGreatDoor; see NOTES.md. -/
/-! Orders as segments. -/
namespace Go.PK
open Go Go.RowKit
set_option linter.unusedVariables false
theorem later_grow (w : World) (n : Nat) (os : Array Obj) : Later w (Sort.grow (w.drewN n) os) where
  os := rfl
  tape := rfl
  output := rfl
  size := by rw [Sort.size_grow]; show w.heap.size ≤ w.heap.size + os.size; omega
  block := fun k hk => by
    show (w.heap ++ os)[k]? = w.heap[k]?
    rw [Array.getElem?_append_left hk]
theorem later_alloc (w : World) (o : Obj) : Later w (w.alloc o) where
  os := rfl
  tape := rfl
  output := rfl
  size := by show w.heap.size ≤ (w.heap.push o).size; rw [Array.size_push]; omega
  block := fun k hk => by
    show (w.heap.push o)[k]? = w.heap[k]?
    rw [Array.getElem?_push, if_neg (by omega)]
theorem alloc_at (w : World) (o : Obj) : (w.alloc o).heap[w.heap.size]? = some o := by
  show (w.heap.push o)[w.heap.size]? = _
  simp
def itoaS (n : Int) : ByteArray := ⟨(Lib.itoa n).toArray⟩
theorem itoaS_size {n : Int} (h : in64 n) : (itoaS n).size ≤ 21 := by
  unfold itoaS; rw [mk_size]; exact Lib.itoa_length_le n h.1 h.2
def colon : ByteArray := ⟨#[58]⟩
def splitC (e : ByteArray) : List ByteArray := Lib.splitB colon 0 (Lib.countB e colon) e
theorem splitC_len (e : ByteArray) : (splitC e).length = Lib.countB e colon + 1 := Lib.splitB_all colon (by decide) 0 _ e rfl
theorem splitB_size (sep : ByteArray) : ∀ (k : Nat) (s : ByteArray), ∀ p ∈ Lib.splitB sep 0 k s, p.size ≤ s.size
  | 0, s, p, h => by rw [Lib.splitB_zero, List.mem_singleton] at h; rw [h]; exact Nat.le_refl _
  | k + 1, s, p, h => by
    unfold Lib.splitB at h
    split at h
    · rw [List.mem_singleton] at h; rw [h]; exact Nat.le_refl _
    · rcases List.mem_cons.1 h with rfl | h
      · rw [ByteArray.size_extract]; omega
      · have := splitB_size sep k _ p h
        rw [ByteArray.size_extract] at this; omega
theorem splitC_ok {e : ByteArray} (h : okS e) : ∀ p ∈ splitC e, okS p := fun p hp => by
  have := splitB_size _ _ _ p hp
  unfold okS at *; omega
structure Ord where
  id : Int
  fund : Int
  src : Int
  num : Int
  copies : Int
  price : Int
  prom : Int
  paid : Int
  st : Int
deriving DecidableEq
def Ord.cells (o : Ord) : List Value := [.int .i64 o.id, .int .i64 o.fund, .int .i64 o.src, .int .i64 o.num, .int .i64 o.copies, .int .i64 o.price, .int .i64 o.prom, .int .i64 o.paid, .int .i64 o.st]
def Ord.ok (o : Ord) : Prop := in64 o.id ∧ in64 o.fund ∧ in64 o.src ∧ in64 o.num ∧ in64 o.copies ∧ in64 o.price
def wi (a b : Int) (l : List Int) : Bool := !l.any (fun n => decide (n < a) || decide (n > b))
def writB (o : Ord) : Bool := wi 1 999999999 [o.id, o.fund] && wi 0 999999999 [o.src, o.num, o.price] && wi 1 9999 [o.copies]
def segP (tag : ByteArray) (es : List ByteArray) : Seg := ⟨tag, es.map splitC⟩
def strB (l : List UInt8) : ByteArray := ⟨l.toArray⟩
def artS (s n : Int) : ByteArray := ((itoaS s ++ ⟨#[46]⟩) ++ itoaS n) ++ ⟨#[58, 83, 82, 86]⟩
theorem artS_size {s n : Int} (h1 : in64 s) (h2 : in64 n) : (artS s n).size ≤ 60 := by
  have a := itoaS_size h1; have b := itoaS_size h2
  unfold artS
  rw [ByteArray.size_append, ByteArray.size_append, ByteArray.size_append]
  have e1 : (⟨#[46]⟩ : ByteArray).size = 1 := rfl
  have e2 : (⟨#[58, 83, 82, 86]⟩ : ByteArray).size = 4 := rfl
  omega
def orderP (o : Ord) : List Seg :=
  [⟨⟨#[85, 78, 72]⟩, [splitC (⟨#[49]⟩), splitC (⟨#[79, 82, 68, 69, 82, 83, 58, 68, 58, 57, 54, 65, 58, 85, 78]⟩)]⟩,
   ⟨⟨#[66, 71, 77]⟩, [splitC (⟨#[50, 50, 48]⟩), splitC (itoaS o.id)]⟩,
   ⟨⟨#[76, 73, 78]⟩, [splitC (⟨#[49]⟩), splitC (⟨#[]⟩), splitC (artS o.src o.num)]⟩,
   ⟨⟨#[81, 84, 89]⟩, [splitC (⟨#[50, 49, 58]⟩ ++ itoaS o.copies)]⟩,
   ⟨⟨#[80, 82, 73]⟩, [splitC (⟨#[65, 65, 65, 58]⟩ ++ itoaS o.price)]⟩,
   ⟨⟨#[82, 70, 70]⟩, [splitC (⟨#[66, 70, 78, 58]⟩ ++ itoaS o.fund)]⟩,
   ⟨⟨#[85, 78, 84]⟩, [splitC (⟨#[55]⟩), splitC (⟨#[49]⟩)]⟩]
def orderR (o : Ord) : List Seg := if writB o then orderP o else []
inductive RdAll {α : Type} (T : Ty α) (D : Nat → Prop) (w : World) : List (List Value) → List α → Prop where
  | nil : RdAll T D w [] []
  | cons {c : List Value} {x : α} {css : List (List Value)} {xs : List α} (h : T.rd D w c x) (t : RdAll T D w css xs) : RdAll T D w (c :: css) (x :: xs)
theorem RdAll.len {α : Type} {T : Ty α} {D : Nat → Prop} {w : World} : ∀ {css : List (List Value)} {xs : List α}, RdAll T D w css xs → css.length = xs.length ∧ css.flatten.length = xs.length * T.size
  | [], [], .nil => ⟨rfl, by simp⟩
  | _ :: _, _ :: _, .cons h t => by
    have ih := t.len
    have := T.len h
    refine ⟨by simp [ih.1], ?_⟩
    rw [List.flatten_cons, List.length_append, ih.2, this, List.length_cons, Nat.succ_mul, Nat.add_comm]
theorem RdAll.at {α : Type} {T : Ty α} {D : Nat → Prop} {w : World} : ∀ {css : List (List Value)} {xs : List α}, RdAll T D w css xs → ∀ j (h1 : j < css.length) (h2 : j < xs.length), T.rd D w css[j] xs[j]
  | _, _, .nil, _, h, _ => by simp at h
  | _, _, .cons h t, 0, _, _ => h
  | _, _, .cons h t, j + 1, h1, h2 => t.at j (by simpa using h1) (by simpa using h2)
/-- A row that is written out. -/
theorem RdAll.rd {α : Type} {T : Ty α} {w : World} {own : List (Nat × Obj)} {ro : List Snap} {e : TypeId} {b n : Nat} {css : List (List Value)} {xs : List α} {w0 : World} (h : RdAll T (newD w0 own) w css xs) (hm : Mem w own ro) (hin : (b, Obj.cells css.flatten.toArray e) ∈ own) (hb : (w0, fun _ => True) ∈ ro) (hn : n = xs.length) (hx : xs.length ≤ maxLen) :
    sliceRd T (fun b => w0.heap.size ≤ b) w (.slice (some ⟨b, 0, none⟩) n n) xs := by
  subst hn
  have hl := h.len
  have hT : RowT T (newD w0 own) w (some (b, css.flatten, xs.length)) xs := ⟨css, hl.1, rowOK_lit hl.2 hx, h.at⟩
  exact hT.rd hm (fun p hp => by rw [List.mem_singleton.1 hp]; exact hin) (fun _ h => h.1) (fun p hp => by rw [List.mem_singleton.1 hp]; exact hm.newer hb hin) rfl
end Go.PK

/- Of the proofs of YtbamklefagghcaaGreatDoor; see NOTES.md. -/
/-! Segments that numbers determine: the plain function. -/
namespace Go.PK
open Go Go.RowKit
set_option linter.unusedVariables false
def textAt (texts : List ByteArray) (c : UInt8) : ByteArray := texts.getD (c.toNat / 4 % texts.length) ⟨#[]⟩
def stepEl (texts : List ByteArray) (xs : List (List ByteArray)) (c : UInt8) : List (List ByteArray) :=
  if c.toNat % 64 = 63 then xs ++ [[]] else addLast (if xs.length = 0 ∨ c.toNat % 4 = 0 then xs ++ [[]] else xs) (textAt texts c)
def elsAt (texts : List ByteArray) (row : List UInt8) (j : Nat) : List (List ByteArray) := (row.take j).foldl (stepEl texts) []
theorem elsAt_succ {texts : List ByteArray} {row : List UInt8} {j : Nat} (h : j < row.length) : elsAt texts row (j + 1) = stepEl texts (elsAt texts row j) row[j] := by
  unfold elsAt
  rw [List.take_succ_eq_append_getElem h, List.foldl_append]
  rfl
def segAt (texts : List ByteArray) (l : List (List UInt8)) (tags : List ByteArray) (k : Nat) : Seg := ⟨tags.getD k ⟨#[]⟩, elsAt texts (l.getD k []) 12⟩
def segsK (tags texts : List ByteArray) (l : List (List UInt8)) (k : Nat) : List Seg := (List.range k).map (segAt texts l tags)
theorem segsK_len (tags texts : List ByteArray) (l : List (List UInt8)) (k : Nat) : (segsK tags texts l k).length = k := by simp [segsK]
theorem segsK_succ (tags texts : List ByteArray) (l : List (List UInt8)) (k : Nat) : segsK tags texts l (k + 1) = segsK tags texts l k ++ [segAt texts l tags k] := by simp [segsK, List.range_succ]
def segsP (tags texts : List ByteArray) (l : List (List UInt8)) : List Seg := segsK tags texts l (min tags.length 10)
theorem els_all {texts : List ByteArray} {row : List UInt8} {j : Nat} (h : j = row.length ∨ j = 12) (h2 : j ≤ 12) : elsAt texts row j = elsAt texts row 12 := by
  rcases h with rfl | rfl
  · unfold elsAt; rw [List.take_length, List.take_of_length_le h2]
  · rfl
theorem getD_at {α : Type} {l : List α} {k : Nat} {d : α} (h : k < l.length) : l.getD k d = l[k] := by rw [List.getD_eq_getElem?_getD, List.getElem?_eq_getElem h]; rfl
theorem getD_no {α : Type} {l : List α} {k : Nat} {d : α} (h : ¬k < l.length) : l.getD k d = d := by rw [List.getD_eq_getElem?_getD, List.getElem?_eq_none (by omega)]; rfl
theorem textAt_ok {texts : List ByteArray} (h : ∀ t ∈ texts, okS t) (c : UInt8) : okS (textAt texts c) := by
  unfold textAt
  by_cases hk : c.toNat / 4 % texts.length < texts.length
  · rw [getD_at hk]; exact h _ (List.getElem_mem hk)
  · rw [getD_no hk]; unfold okS; decide
theorem all_ok {D : Nat → Prop} {w : World} {v : Value} {xs : List ByteArray} (h : sliceRd tyStr D w v xs) : ∀ t ∈ xs, okS t := by
  intro t ht
  obtain ⟨A, c, rfl, _⟩ := id h
  obtain ⟨k, hk, rfl⟩ := List.getElem_of_mem ht
  obtain ⟨_, _, _, _, _, h2⟩ := s_at h hk
  exact h2
/-- The row of a segment, where there is one. -/
theorem row_there {D : Nat → Prop} {w : World} {A : Option Addr} {m c : Nat} {l : List (List UInt8)} (h : sliceRd (tySlice tyB) D w (.slice A m c) l) (k : Nat) :
    ∃ lb lo rA rc, k < l.length → A = some ⟨lb, lo, none⟩ ∧ D lb ∧ w.cell? ⟨lb, lo + k, none⟩ = some (.slice rA (l.getD k []).length rc) ∧ sliceRd tyB D w (.slice rA (l.getD k []).length rc) (l.getD k []) := by
  by_cases hk : k < l.length
  · obtain ⟨b, o, v, h1, h2, h3, h4⟩ := sl_at h hk
    obtain ⟨rA, rc, rfl, _⟩ := id h4
    exact ⟨b, o, rA, rc, fun _ => by rw [getD_at hk]; exact ⟨h1, h2, h3, h4⟩⟩
  · exact ⟨0, 0, none, 0, fun h => absurd h hk⟩
end Go.PK

/- Of the proofs of YtbamklefagghcaaGreatDoor; see NOTES.md. -/
/-! More operations: conversions that keep the number. -/
namespace Go.PK
open Go Go.RowKit
set_option linter.unusedVariables false
section
variable {P : Program} {n : Nat} {l : List (Nat × Value)} {own : List (Nat × Obj)} {ro : List Snap} {ty t t' : TypeId} {x y : Operand} {k k' : IntKind} {a b : Int}
theorem v_conv64 {td : TypeDesc} (hs : P.underlying t = some td) (hd : P.underlying t' = some (.int .i64)) (hx : ev l x = some (.int k a)) (h : -9223372036854775808 ≤ a ∧ a ≤ 9223372036854775807) : OpV P n l own ro (.convert t t' x) ty (.int .i64 a) := by
  have := v_conv (n := n) (own := own) (ro := ro) (ty := ty) hs hd hx
  rwa [wrap_in h] at this
theorem v_remN {a b : Nat} (hx : ev l x = some (.int k (a : Nat))) (hy : ev l y = some (.int k (b : Nat))) (h0 : b ≠ 0) : OpV P n l own ro (.binOp .rem t x y t') ty (.int k ((a % b : Nat) : Int)) :=
  v_rem hx hy (by omega)
theorem v_quoN {a b : Nat} (hx : ev l x = some (.int .i64 (a : Nat))) (hy : ev l y = some (.int .i64 (b : Nat))) (h0 : b ≠ 0) (h : a ≤ 9223372036854775807) : OpV P n l own ro (.binOp .quo t x y t') ty (.int .i64 ((a / b : Nat) : Int)) :=
  v_quoi (c := ((a / b : Nat) : Int)) hx hy (by omega) rfl (by have h2 := Nat.div_le_self a b; generalize a / b = q at h2 ⊢; constructor <;> omega)
/-- 'p[:]', p the address of an array. -/
theorem v_aslice {e : TypeId} {N m b off : Nat} (ht : P.underlying t = some (.array N e)) (hs : (P.info? e).map (·.size) = some m) (hx : ev l x = some (.pointer (some ⟨b, off, none⟩))) :
    OpV P n l own ro (.slice t x none none none) ty (.slice (some ⟨b, off, none⟩) N N) := by
  intro a w o ha hw ho _
  have h2 : (Instr.sliceAt t (.pointer (some ⟨b, off, none⟩)) none none none).run P w = .ok (.slice (some ⟨b, off, none⟩) N N) w := by
    simp [Instr.sliceAt, Instr.sureAddr, Instr.sliceBounds, run_underlying ht, run_sizeOf hs, Addr.add]
  simp [execOp, ho, ha.eval hx, h2]
/-- 'p[:j]'. -/
theorem v_aslice_to {e : TypeId} {N m b off j : Nat} {kk : IntKind} (ht : P.underlying t = some (.array N e)) (hs : (P.info? e).map (·.size) = some m) (hx : ev l x = some (.pointer (some ⟨b, off, none⟩))) (hy : ev l y = some (.int kk (j : Nat))) (hj : j ≤ N) :
    OpV P n l own ro (.slice t x none (some y) none) ty (.slice (some ⟨b, off, none⟩) j N) := by
  intro a w o ha hw ho _
  have h2 : (Instr.sliceAt t (.pointer (some ⟨b, off, none⟩)) none (some (.int kk (j : Nat))) none).run P w = .ok (.slice (some ⟨b, off, none⟩) j N) w := by
    simp [Instr.sliceAt, Instr.sureAddr, Instr.sliceBounds, Instr.sliceBound, asIntOf, hj, run_underlying ht, run_sizeOf hs, Addr.add]
  simp [execOp, ho, ha.eval hx, ha.eval hy, h2]
/-- 's[i:]', s a slice. -/
theorem v_scut_from {e : TypeId} {A : Option Addr} {len cap i m : Nat} {kk : IntKind} (ht : P.underlying t = some (.slice e)) (hs : (P.info? e).map (·.size) = some m) (hx : ev l x = some (.slice A len cap)) (hy : ev l y = some (.int kk (i : Nat))) (hi : i ≤ len) (hc : len ≤ cap) :
    OpV P n l own ro (.slice t x (some y) none none) ty (.slice (if cap = i then A else A.map (fun a => a.add (i * m))) (len - i) (cap - i)) := by
  intro a w o ha hw ho _
  have h2 : (Instr.sliceAt t (.slice A len cap) (some (.int kk (i : Nat))) none none).run P w = .ok (.slice (if cap = i then A else A.map (fun a => a.add (i * m))) (len - i) (cap - i)) w := by
    simp [Instr.sliceAt, Instr.slice, Instr.sliceBounds, Instr.sliceBound, asIntOf, run_underlying ht, hi, run_sizeOf hs]
  simp [execOp, ho, ha.eval hx, ha.eval hy, h2]
/-- 'a[j]', a an array (of elements of one cell). -/
theorem v_indexV {e : TypeId} {N j : Nat} {cs : Array Value} {v : Value} {fd : TypeDesc} {kk : IntKind} (ht : P.underlying t = some (.array N e)) (hfd : P.underlying e = some fd) (hd : aggT fd = false) (hs : (P.info? e).map (·.size) = some 1) (hx : ev l x = some (.agg cs)) (hy : ev l y = some (.int kk (j : Nat))) (hj : j < N) (hv : cs[j]? = some v) :
    OpV P n l own ro (.index t x y) ty v := by
  intro a w o ha hw ho _
  simp [execOp, ho, ha.eval hx, ha.eval hy, Instr.index, run_underlying ht, run_sizeOf hs, asIntOf, hj, part, run_isAgg hfd, hd, hv]
theorem v_saddL {a b : List UInt8} (hx : ev l x = some (.string ⟨a.toArray⟩)) (hy : ev l y = some (.string ⟨b.toArray⟩)) (h : a.length + b.length ≤ 9223372036854775807) : OpV P n l own ro (.binOp .add t x y t') ty (.string ⟨(a ++ b).toArray⟩) := by
  rw [← str_app2]
  exact v_sadd hx hy (by rw [mk_size, mk_size]; exact h)
theorem row_byte {e : TypeId} {r : RowS} {m : Nat} {bs : List UInt8} (h : rowOK 1 r m (byC bs)) (hin : ∀ p ∈ rowO e r, p ∈ own) : ∀ w, Mem w own ro → ∀ j (hj : j < bs.length), ∃ b off, rowA r = some ⟨b, off, none⟩ ∧ w.cell? ⟨b, off + j, none⟩ = some (.int .u8 (bs[j].toNat : Nat)) := by
  intro w hw j hj
  obtain ⟨b, cs, c, rfl, h2⟩ := h.cell (j := j) (by rw [byC_len]; exact hj)
  refine ⟨b, 0, rfl, ?_⟩
  rw [Nat.zero_add, hw.cell_own (hin _ (.head _)) j, List.getElem?_toArray, h2]
  congr 1
  simp [byC]
theorem encode_byte {c : UInt8} (h : c.toNat < 128) : Utf8.encode ((c.toNat : Nat) : Int) = ⟨#[c]⟩ := by
  have hv : Utf8.valid ((c.toNat : Nat) : Int) = true := by
    simp [Utf8.valid]; omega
  unfold Utf8.encode
  simp only [hv, if_true]
  rw [show (((c.toNat : Nat) : Int)).toNat = c.toNat from rfl, if_pos h]
  simp
/-- 'string(c)', c a byte below 128. -/
theorem v_chr {td : TypeDesc} {c : UInt8} (hs : P.underlying t = some td) (hd : P.underlying t' = some .string) (hx : ev l x = some (.int k ((c.toNat : Nat) : Int))) (h : c.toNat < 128) : OpV P n l own ro (.convert t t' x) ty (.string ⟨#[c]⟩) := by
  intro A w o ha hw ho _
  have := run_convert_int_string (P := P) w t t' k ((c.toNat : Nat) : Int) (by rw [hs]; rfl) hd
  rw [encode_byte h] at this
  simp [execOp, ho, ha.eval hx, this]
/-- 'string(b)', b a slice of bytes that reads so. -/
theorem v_toStrA {e : TypeId} {A : Option Addr} {m c : Nat} (bs : List UInt8) (hs : P.underlying t = some (.slice e)) (he : P.underlying e = some (.int .u8)) (hd : P.underlying t' = some .string) (hx : ev l x = some (.slice A m c)) (hm : m = bs.length)
    (hc : ∀ w, Mem w own ro → ∀ j (hj : j < bs.length), ∃ b off, A = some ⟨b, off, none⟩ ∧ w.cell? ⟨b, off + j, none⟩ = some (.int .u8 (bs[j].toNat : Nat))) : OpV P n l own ro (.convert t t' x) ty (.string ⟨bs.toArray⟩) := by
  intro a w o ha hw ho h0
  cases A with
  | some p =>
    cases bs with
    | nil =>
      obtain ⟨b, off, base⟩ := p
      subst hm
      have h2 := run_convert_bytes_back (P := P) w t t' e ⟨b, off, base⟩ c [] hs he hd (fun j hj => by cases hj)
      simp only [List.length_nil] at h2 hx
      simp only [List.length_nil] at *
      simp [execOp, ho, ha.eval hx, h2]
    | cons b0 bs =>
      obtain ⟨b, off, hb, _⟩ := hc w hw 0 (by simp)
      cases hb
      refine v_toStr (n := n) (l := l) (own := []) (ro := [(w, fun _ => True)]) (off := off) (b := b) (b0 :: bs) hs he hd hx hm (fun j hj => ?_) a w o ha (Mem.init w) ho h0
      obtain ⟨b', off', h1, h2⟩ := hc w hw j hj
      cases h1
      intro w2 hw2
      rw [hw2.cell_ro (s := (w, fun _ => True)) (.head _) trivial (cell_lt h2)]
      exact h2
  | none =>
    cases bs with
    | cons b0 bs => obtain ⟨b, off, hb, _⟩ := hc w hw 0 (by simp); cases hb
    | nil =>
      subst hm
      have h2 : (convert t t' (.slice none 0 c)).run P w = .ok (.string ⟨#[]⟩) w := by
        simp [convert, run_underlying hs, run_underlying hd, run_underlying he, Conv.bytesToString]
        rfl
      simp only [List.length_nil] at hx
      simp [execOp, ho, ha.eval hx, h2]
end
end Go.PK

/- Of the proofs of YtbamklefagghcaaGreatDoor; see NOTES.md. -/
/-! The examples of the document: what they are. -/
namespace Go.PK
open Go Go.RowKit
set_option linter.unusedVariables false
theorem okS_small {s : ByteArray} (h : s.size ≤ 100000) : okS s := by unfold okS; omega
/-- A row that is written out, read. -/
theorem lits_own {α : Type} {T : Ty α} {D : Nat → Prop} {w : World} {own : List (Nat × Obj)} {ro : List Snap} {b n : Nat} {e : TypeId} (css : List (List Value)) {xs : List α} (hm : Mem w own ro) (hb : (b, Obj.cells css.flatten.toArray e) ∈ own)
    (hn : n = xs.length) (hmx : xs.length ≤ 9223372036854775807) (hD : D b) (hrd : Reads T D w css xs) : sliceRd T D w (.slice (some ⟨b, 0, none⟩) n n) xs :=
  lits_rd css (hm.own_at _ hb) rfl hn hmx hD hrd
theorem lits_new {α : Type} {T : Ty α} {w w0 : World} {own : List (Nat × Obj)} {ro : List Snap} {b n : Nat} {e : TypeId} (css : List (List Value)) {xs : List α} (hm : Mem w own ro) (hs : (w0, fun _ => True) ∈ ro) (hb : (b, Obj.cells css.flatten.toArray e) ∈ own)
    (hn : n = xs.length) (hmx : xs.length ≤ 9223372036854775807) (hrd : Reads T (fun b => w0.heap.size ≤ b) w css xs) : sliceRd T (fun b => w0.heap.size ≤ b) w (.slice (some ⟨b, 0, none⟩) n n) xs :=
  lits_own css hm hb hn hmx (hm.newer hs hb) hrd
def egA : Seg := ⟨⟨#[65, 66, 67]⟩, [[(⟨#[97]⟩ : ByteArray), (⟨#[98]⟩ : ByteArray)], [(⟨#[43]⟩ : ByteArray)]]⟩
def egB : Seg := ⟨⟨#[65, 66, 67]⟩, [[(⟨#[120, 35]⟩ : ByteArray), (⟨#[121]⟩ : ByteArray)]]⟩
def egC : Seg := ⟨⟨#[65, 66, 67]⟩, [[(⟨#[105, 116, 39, 115]⟩ : ByteArray)]]⟩
theorem ex_a : parR ⟨#[65, 66, 67, 43, 97, 58, 98, 43, 63, 43, 39]⟩ = ([egA], 0, 0) := by decide +kernel
theorem ex_b : parR ⟨#[85, 78, 65, 42, 35, 46, 33, 32, 126, 65, 66, 67, 35, 120, 33, 35, 42, 121, 126]⟩ = ([egB], 0, 0) := by decide +kernel
theorem ex_c : parR ⟨#[65, 66, 67, 43, 97]⟩ = ([], 5, 10) := by decide +kernel
theorem ex_d : parR ⟨#[65, 98, 67, 39]⟩ = ([], 0, 40) := by decide +kernel
theorem ex_e : parR ⟨#[65, 66, 67, 68, 39]⟩ = ([], 3, 40) := by decide +kernel
theorem ex_w : wrR [egC] = (⟨#[65, 66, 67, 43, 105, 116, 63, 39, 115, 39]⟩, 0) := by decide +kernel
def egO : Ord := ⟨7, 2, 1, 5, 3, 1250, 0, 0, 0⟩
theorem ex_o : wrR (orderR egO) = (⟨#[85, 78, 72, 43, 49, 43, 79, 82, 68, 69, 82, 83, 58, 68, 58, 57, 54, 65, 58, 85, 78, 39, 66, 71, 77, 43, 50, 50, 48, 43, 55, 39, 76, 73, 78, 43, 49, 43, 43, 49, 46, 53, 58, 83, 82, 86, 39, 81, 84, 89, 43, 50, 49, 58, 51, 39, 80, 82, 73, 43, 65, 65, 65, 58, 49, 50, 53, 48, 39, 82, 70, 70, 43, 66, 70, 78, 58, 50, 39, 85, 78, 84, 43, 55, 43, 49, 39]⟩, 0) := by decide +kernel
theorem ex_wl : (wrT [egC]).length ≤ 2000000000000 := by decide +kernel
theorem ex_ol : (wrT (orderR egO)).length ≤ 2000000000000 := by decide +kernel
end Go.PK

/- Of the proofs of YtbamklefagghcaaGreatDoor; see NOTES.md. -/
/-! Numbers as texts: what is written is read again; texts in front of and behind a sign. -/
namespace Go.PK
open Go Go.RowKit
set_option linter.unusedVariables false
def digB8 (c : UInt8) : Bool := decide (48 ≤ c.toNat ∧ c.toNat ≤ 57)
def numF (l : List UInt8) (a : Nat) : Nat := l.foldl (fun a c => 10 * a + (c.toNat - 48)) a
theorem numF_snoc (l : List UInt8) (c : UInt8) (a : Nat) : numF (l ++ [c]) a = 10 * numF l a + (c.toNat - 48) := by simp [numF]
/-- Digits without leading zeros. -/
def canonL (l : List UInt8) : Prop := l ≠ [] ∧ (∀ c ∈ l, digB8 c = true) ∧ (1 < l.length → l.head? ≠ some 48)
instance (l : List UInt8) : Decidable (canonL l) := by unfold canonL; infer_instance
theorem dig_of {d : Nat} (h : d < 10) : (UInt8.ofNat (48 + d)).toNat = 48 + d := by
  rw [UInt8.toNat_ofNat_of_lt' (by show _ < 256; omega)]
theorem digB8_of {d : Nat} (h : d < 10) : digB8 (UInt8.ofNat (48 + d)) = true := by
  unfold digB8; rw [dig_of h]; exact decide_eq_true (by omega)
theorem dig_back {c : UInt8} (h : digB8 c = true) : UInt8.ofNat (48 + (c.toNat - 48)) = c := by
  have := of_decide_eq_true h
  rw [show 48 + (c.toNat - 48) = c.toNat by omega]
  exact UInt8.ofNat_toNat
theorem dec_small {u : Nat} (h : u < 10) : Lib.decDigits u = [UInt8.ofNat (48 + u)] := by rw [Lib.decDigits, dif_pos h]
theorem dec_big {u : Nat} (h : ¬u < 10) : Lib.decDigits u = Lib.decDigits (u / 10) ++ [UInt8.ofNat (48 + u % 10)] := by rw [Lib.decDigits, dif_neg h]
theorem dec_num : ∀ (n u : Nat), u ≤ n → numF (Lib.decDigits u) 0 = u
  | 0, u, h => by rw [dec_small (by omega)]; show 10 * 0 + ((UInt8.ofNat (48 + u)).toNat - 48) = u; rw [dig_of (by omega)]; omega
  | n + 1, u, h => by
    by_cases hu : u < 10
    · rw [dec_small hu]; show 10 * 0 + ((UInt8.ofNat (48 + u)).toNat - 48) = u; rw [dig_of hu]; omega
    · rw [dec_big hu, numF_snoc, dec_num n (u / 10) (by omega), dig_of (by omega)]; omega
theorem dec_canon : ∀ (n u : Nat), u ≤ n → canonL (Lib.decDigits u) ∧ (0 < u → (Lib.decDigits u).head? ≠ some 48)
  | n, u, h => by
    by_cases hu : u < 10
    · rw [dec_small hu]
      refine ⟨⟨by simp, fun c hc => by rw [List.mem_singleton.1 hc]; exact digB8_of hu, fun h => by simp at h⟩, fun h0 h1 => ?_⟩
      have h1 : UInt8.ofNat (48 + u) = 48 := by simpa using h1
      have := congrArg UInt8.toNat h1
      rw [dig_of hu] at this
      have e : (48 : UInt8).toNat = 48 := rfl
      omega
    · match n with
      | 0 => omega
      | n + 1 =>
        obtain ⟨⟨a1, a2, a3⟩, a4⟩ := dec_canon n (u / 10) (by omega)
        rw [dec_big hu]
        have hh : (Lib.decDigits (u / 10) ++ [UInt8.ofNat (48 + u % 10)]).head? = (Lib.decDigits (u / 10)).head? := by
          cases hd : Lib.decDigits (u / 10) with
          | nil => exact absurd hd a1
          | cons x l => rfl
        refine ⟨⟨by simp, fun c hc => ?_, fun _ => by rw [hh]; exact a4 (by omega)⟩, fun _ => by rw [hh]; exact a4 (by omega)⟩
        rcases List.mem_append.1 hc with hc | hc
        · exact a2 c hc
        · rw [List.mem_singleton.1 hc]; exact digB8_of (by omega)
theorem canon_dec : ∀ (n : Nat) (l : List UInt8), l.length ≤ n → canonL l → Lib.decDigits (numF l 0) = l
  | 0, l, h, hc => absurd (List.eq_nil_of_length_eq_zero (by omega)) hc.1
  | n + 1, l, h, hc => by
    obtain ⟨h1, h2, h3⟩ := hc
    rcases List.eq_nil_or_concat l with rfl | ⟨m, c, rfl⟩
    · exact absurd rfl h1
    · rw [List.concat_eq_append] at h h2 h3 ⊢
      have hcd : digB8 c = true := h2 c (by simp)
      have hcr := of_decide_eq_true hcd
      rw [numF_snoc]
      by_cases hm : m = []
      · subst hm
        show Lib.decDigits (10 * 0 + (c.toNat - 48)) = [c]
        rw [dec_small (by omega), show 10 * 0 + (c.toNat - 48) = c.toNat - 48 by omega, dig_back hcd]
      · have hcm : canonL m := by
          refine ⟨hm, fun x hx => h2 x (List.mem_append_left _ hx), fun hl => ?_⟩
          have h4 := h3 (by rw [List.length_append, List.length_singleton]; omega)
          cases m with
          | nil => exact absurd rfl hm
          | cons x m => exact h4
        have ih := canon_dec n m (by rw [List.length_append, List.length_singleton] at h; omega) hcm
        have hpos : 0 < numF m 0 := by
          rcases Nat.eq_zero_or_pos (numF m 0) with h0 | h0
          · exfalso
            rw [h0, dec_small (by omega)] at ih
            rw [← ih] at h3
            exact h3 (by simp) rfl
          · exact h0
        rw [dec_big (by omega), show (10 * numF m 0 + (c.toNat - 48)) / 10 = numF m 0 by omega, ih, show (10 * numF m 0 + (c.toNat - 48)) % 10 = c.toNat - 48 by omega, dig_back hcd]
theorem dec_len : ∀ (k u : Nat), (Lib.decDigits u).length ≤ k + 1 ↔ u < 10 ^ (k + 1)
  | 0, u => by
    by_cases hu : u < 10
    · rw [dec_small hu]; simp; omega
    · rw [dec_big hu]
      have := (dec_canon _ (u / 10) (Nat.le_refl _)).1.1
      have h2 := List.length_pos_iff.2 this
      rw [List.length_append, List.length_singleton]
      constructor
      · intro h; omega
      · intro h; simp at h; omega
  | k + 1, u => by
    by_cases hu : u < 10
    · rw [dec_small hu]
      have : 10 ^ 1 ≤ 10 ^ (k + 1 + 1) := Nat.pow_le_pow_right (by decide) (by omega)
      simp; omega
    · rw [dec_big hu, List.length_append, List.length_singleton]
      have ih := dec_len k (u / 10)
      have e : 10 ^ (k + 1 + 1) = 10 * 10 ^ (k + 1) := by rw [Nat.pow_succ, Nat.mul_comm]
      rw [e]
      constructor
      · intro h; have := ih.1 (by omega); omega
      · intro h; have := ih.2 (by omega); omega
/-! strconv.Atoi -/
theorem parse_ok : ∀ (l : List UInt8) (k a : Nat), (∀ c ∈ l, digB8 c = true) → a < 10 ^ k → k + l.length ≤ 18 → Lib.parseUint10 a l = .ok (numF l a)
  | [], _, _, _, _, _ => rfl
  | c :: l, k, a, hd, ha, hk => by
    have hc := of_decide_eq_true (hd c (List.mem_cons_self ..))
    have e : 10 ^ (k + 1) = 10 * 10 ^ k := by rw [Nat.pow_succ, Nat.mul_comm]
    have hp : 10 ^ (k + 1) ≤ 10 ^ 18 := Nat.pow_le_pow_right (by decide) (by rw [List.length_cons] at hk; omega)
    have hp2 : (10 : Nat) ^ 18 = 1000000000000000000 := by decide
    rw [Lib.parseUint10, if_pos hc, if_neg (by omega), if_neg (by omega)]
    rw [parse_ok l (k + 1) (a * 10 + (c.toNat - 48)) (fun x hx => hd x (List.mem_cons_of_mem _ hx)) (by omega) (by rw [List.length_cons] at hk; omega)]
    show Lib.NumEnd.ok (numF l _) = .ok (numF l (10 * a + (c.toNat - 48)))
    rw [Nat.mul_comm a 10]
theorem atoi_digits {l : List UInt8} (h : canonL l) (hk : l.length ≤ 18) : Lib.atoiAll l = .ok ((numF l 0 : Nat) : Int) := by
  obtain ⟨h1, h2, _⟩ := h
  cases l with
  | nil => exact absurd rfl h1
  | cons c r =>
    have hc := of_decide_eq_true (h2 c (List.mem_cons_self ..))
    have hp := parse_ok (c :: r) 0 0 h2 (by decide) (by omega)
    unfold Lib.atoiAll
    dsimp only
    rw [if_neg (by omega)]
    unfold Lib.parseMag
    rw [if_neg (by simp), hp]
    dsimp only
    have hlt : numF (c :: r) 0 < 10 ^ 18 := by
      have key : ∀ (l : List UInt8) (k a : Nat), (∀ c ∈ l, digB8 c = true) → a < 10 ^ k → numF l a < 10 ^ (k + l.length) := by
        intro l
        induction l with
        | nil => intro k a _ ha; exact ha
        | cons x l ih =>
          intro k a hd ha
          have hx := of_decide_eq_true (hd x (List.mem_cons_self ..))
          have e : 10 ^ (k + 1) = 10 * 10 ^ k := by rw [Nat.pow_succ, Nat.mul_comm]
          have := ih (k + 1) (10 * a + (x.toNat - 48)) (fun y hy => hd y (List.mem_cons_of_mem _ hy)) (by omega)
          rw [List.length_cons, show k + (l.length + 1) = k + 1 + l.length by omega]
          exact this
      have h3 := key (c :: r) 0 0 h2 (by decide)
      have h4 : 10 ^ (0 + (c :: r).length) ≤ 10 ^ 18 := Nat.pow_le_pow_right (by decide) (by omega)
      omega
    have hp2 : (10 : Nat) ^ 18 = 1000000000000000000 := by decide
    rw [if_neg (by omega), if_neg (by omega), if_neg (by omega)]
/-- What 'read' returns. -/
def readP (s : ByteArray) : Int := match Lib.atoiAll (bl s) with | .ok v => if s.size ≤ 18 then v else -1 | _ => -1
theorem readP_canon {s : ByteArray} (h : canonL (bl s)) (hk : s.size ≤ 18) : readP s = ((numF (bl s) 0 : Nat) : Int) := by
  unfold readP
  rw [atoi_digits h (by rw [bl_len]; exact hk)]
  dsimp only
  rw [if_pos hk]
theorem readP_size {s : ByteArray} (h : 0 ≤ readP s) : s.size ≤ 18 := by
  unfold readP at h
  split at h
  · split at h
    · assumption
    · omega
  · omega
theorem itoaS_nat (u : Nat) : itoaS (u : Int) = ⟨(Lib.decDigits u).toArray⟩ := by
  unfold itoaS Lib.itoa; rw [if_neg (by omega), Int.toNat_natCast]
theorem itoaS_nn {n : Int} (h : 0 ≤ n) : bl (itoaS n) = Lib.decDigits n.toNat := by
  unfold itoaS Lib.itoa; rw [if_neg (by omega)]; rfl
theorem itoa_canon {n : Int} (h : 0 ≤ n) : canonL (bl (itoaS n)) := by rw [itoaS_nn h]; exact (dec_canon _ _ (Nat.le_refl _)).1
theorem itoa_num {n : Int} (h : 0 ≤ n) : ((numF (bl (itoaS n)) 0 : Nat) : Int) = n := by rw [itoaS_nn h, dec_num _ _ (Nat.le_refl _)]; omega
theorem itoa_sz {n : Int} (h : 0 ≤ n) (k : Nat) : (itoaS n).size ≤ k + 1 ↔ n < 10 ^ (k + 1) := by
  rw [← bl_len, itoaS_nn h, dec_len]
  constructor
  · intro h2
    have h3 : ((n.toNat : Nat) : Int) < ((10 ^ (k + 1) : Nat) : Int) := Int.ofNat_lt.2 h2
    rw [Int.toNat_of_nonneg h] at h3
    simpa using h3
  · intro h2
    have h3 : ((n.toNat : Nat) : Int) < ((10 ^ (k + 1) : Nat) : Int) := by rw [Int.toNat_of_nonneg h]; simpa using h2
    exact Int.ofNat_lt.1 h3
theorem canon_itoa {s : ByteArray} (h : canonL (bl s)) : itoaS ((numF (bl s) 0 : Nat) : Int) = s := by
  rw [itoaS_nat, canon_dec _ _ (Nat.le_refl _) h, bl_str]
theorem readP_itoa {n : Int} (h : 0 ≤ n) (h2 : n < 1000000000000000000) : readP (itoaS n) = n := by
  rw [readP_canon (itoa_canon h) ((itoa_sz h 17).2 (by have : (10 : Int) ^ (17 + 1) = 1000000000000000000 := by decide
                                                       omega)), itoa_num h]
/-- The reference's numbers. -/
def valP (s : ByteArray) (most : Nat) : Int × Bool := if canonL (bl s) ∧ s.size ≤ most then (((numF (bl s) 0 : Nat) : Int), true) else (0, false)
theorem valP_itoa {n : Int} (h : 0 ≤ n) (k : Nat) (h2 : n < 10 ^ (k + 1)) : valP (itoaS n) (k + 1) = (n, true) := by
  unfold valP; rw [if_pos ⟨itoa_canon h, (itoa_sz h k).2 h2⟩, itoa_num h]
theorem valP_ok {s : ByteArray} {m : Nat} (h : (valP s m).2 = true) : itoaS (valP s m).1 = s ∧ 0 ≤ (valP s m).1 ∧ s.size ≤ m ∧ canonL (bl s) := by
  unfold valP at h ⊢
  split
  · rename_i hc; exact ⟨canon_itoa hc.1, Int.natCast_nonneg _, hc.2, hc.1⟩
  · rename_i hc; rw [if_neg hc] at h; cases h
theorem valP_no {s : ByteArray} {m : Nat} (h : (valP s m).2 = false) : ¬(canonL (bl s) ∧ s.size ≤ m) := fun hc => by unfold valP at h; rw [if_pos hc] at h; cases h
/-! strings.Split at a colon -/
theorem split_none {e : ByteArray} (h : ∀ c ∈ bl e, c ≠ 58) : splitC e = [e] := by
  unfold splitC
  have : Lib.countB e colon = 0 := by
    show Lib.count (bl e) [58] = 0
    rw [Lib.count_one, List.count_eq_zero]
    exact fun hc => h 58 hc rfl
  rw [this, Lib.splitB_zero]
theorem bl_app (a b : ByteArray) : bl (a ++ b) = bl a ++ bl b := by
  unfold bl; rw [ByteArray.data_append, Array.toList_append]
theorem ext_app_l (a b : ByteArray) : (a ++ b).extract 0 a.size = a := by
  have : bl ((a ++ b).extract 0 a.size) = bl a := by
    show ((a ++ b).extract 0 a.size).data.toList = _
    rw [ByteArray.data_extract, Array.toList_extract, List.extract_eq_take_drop]
    show ((bl (a ++ b)).drop 0).take (a.size - 0) = _
    rw [bl_app, List.drop_zero, Nat.sub_zero, ← bl_len a, List.take_left]
  rw [← bl_str ((a ++ b).extract 0 a.size), this, bl_str]
theorem ext_app_r (a b : ByteArray) : (a ++ b).extract a.size (a ++ b).size = b := by
  have : bl ((a ++ b).extract a.size (a ++ b).size) = bl b := by
    show ((a ++ b).extract a.size (a ++ b).size).data.toList = _
    rw [ByteArray.data_extract, Array.toList_extract, List.extract_eq_take_drop]
    show ((bl (a ++ b)).drop a.size).take _ = _
    rw [bl_app, ← bl_len a, List.drop_left, ByteArray.size_append, ← bl_len a, ← bl_len b, Nat.add_sub_cancel_left, List.take_length]
  rw [← bl_str ((a ++ b).extract a.size (a ++ b).size), this, bl_str]
theorem idx_byte : ∀ (a b : List UInt8) (x : UInt8), (∀ c ∈ a, c ≠ x) → Lib.indexByte (a ++ x :: b) x = (a.length : Nat)
  | [], b, x, _ => by show Lib.indexByte (x :: b) x = 0; unfold Lib.indexByte; rw [if_pos (by simp)]
  | y :: a, b, x, h => by
    have ih := idx_byte a b x (fun c hc => h c (List.mem_cons_of_mem _ hc))
    have hy := h y (List.mem_cons_self ..)
    show Lib.indexByte (y :: (a ++ x :: b)) x = _
    unfold Lib.indexByte
    rw [if_neg (by simpa using hy), ih, if_neg (by simp), List.length_cons]
    omega
theorem idx_sep (a b : ByteArray) (x : UInt8) (h : ∀ c ∈ bl a, c ≠ x) : Lib.indexB ((a ++ ⟨#[x]⟩) ++ b) ⟨#[x]⟩ = (a.size : Nat) := by
  show Lib.index (bl ((a ++ ⟨#[x]⟩) ++ b)) [x] = _
  rw [Lib.index_one, bl_app, bl_app, List.append_assoc]
  show Lib.indexByte (bl a ++ x :: bl b) x = _
  rw [idx_byte _ _ _ h, bl_len]
theorem split_one {a b : ByteArray} (ha : ∀ c ∈ bl a, c ≠ 58) (hb : ∀ c ∈ bl b, c ≠ 58) : splitC ((a ++ ⟨#[58]⟩) ++ b) = [a, b] := by
  unfold splitC
  have : Lib.countB ((a ++ ⟨#[58]⟩) ++ b) colon = 1 := by
    show Lib.count (bl ((a ++ ⟨#[58]⟩) ++ b)) [58] = 1
    rw [Lib.count_one, bl_app, bl_app, List.count_append, List.count_append, List.count_eq_zero.2 (fun hc => ha 58 hc rfl), List.count_eq_zero.2 (fun hc => hb 58 hc rfl)]
    rfl
  rw [this, Lib.splitB_hit colon 0 0 _ a.size (idx_sep a b 58 ha), Lib.splitB_zero]
  have e1 : colon.size = 1 := rfl
  have e2 : a.size + colon.size = (a ++ (⟨#[58]⟩ : ByteArray)).size := by rw [ByteArray.size_append, e1]; rfl
  rw [e2, ext_app_r, Nat.add_zero, ByteArray.append_assoc, ext_app_l]
theorem dig_ne {c x : UInt8} (h : digB8 c = true) (hx : x.toNat < 48 ∨ 57 < x.toNat) : c ≠ x := fun e => by
  have := of_decide_eq_true h
  rw [e] at this; omega
theorem itoa_ne {n : Int} (h : 0 ≤ n) {x : UInt8} (hx : x.toNat < 48 ∨ 57 < x.toNat) : ∀ c ∈ bl (itoaS n), c ≠ x := fun c hc => dig_ne ((itoa_canon h).2.1 c hc) hx
end Go.PK

/- Of the proofs of YtbamklefagghcaaGreatDoor; see NOTES.md. -/
/-! Orders and invoices: the plain functions. -/
namespace Go.PK
open Go Go.RowKit
set_option linter.unusedVariables false
def Ord.okA (o : Ord) : Prop := o.ok ∧ in64 o.prom ∧ in64 o.paid ∧ in64 o.st
def tyOrd : Ty Ord where
  size := 9
  rd := fun _ _ cs o => cs = o.cells ∧ o.okA
  len := fun h => by rw [h.1]; rfl
  keep := fun h _ => h
theorem ord_at {D : Nat → Prop} {w : World} {A : Option Addr} {l c : Nat} {xs : List Ord} (h : sliceRd tyOrd D w (.slice A l c) xs) {k : Nat} (hk : k < xs.length) :
    ∃ b off, A = some ⟨b, off, none⟩ ∧ D b ∧ (∀ i (hi : i < 9), w.cell? ⟨b, off + k * 9 + i, none⟩ = some (xs[k].cells[i]'hi)) ∧ xs[k].okA := by
  obtain ⟨A', c', e, h1, h2, h3⟩ := h
  injection e with e1 e2 e3
  subst e1 e2 e3
  obtain ⟨b, off, rfl, hD, hb, hc⟩ := h3 (by omega)
  obtain ⟨cs, hcs, rfl, hok⟩ := hc k hk
  exact ⟨b, off, rfl, hD, fun i hi => hcs i hi, hok⟩
/-- A component of a segment, as text. -/
def txO (l : List Seg) (n e c : Nat) : Option ByteArray := ((l[n]?).bind fun x => x.els[e]?).bind fun y => y[c]?
def txt (l : List Seg) (n e c : Nat) : ByteArray := (txO l n e c).getD ⟨#[]⟩
def atP (l : List Seg) (n e c : Nat) : Int × Bool := match txO l n e c with | some s => valP s 9 | none => (0, false)
def cutD (s : ByteArray) : ByteArray × ByteArray × Bool := (⟨(Lib.cut (bl s) [46]).1.toArray⟩, ⟨(Lib.cut (bl s) [46]).2.1.toArray⟩, (Lib.cut (bl s) [46]).2.2)
def recS (s : ByteArray) : Int × Int := (readP (cutD s).1, readP (cutD s).2.1)
def rrecS (s : ByteArray) : (Int × Int) × Bool := if (cutD s).2.2 then (((valP (cutD s).1 9).1, (valP (cutD s).2.1 9).1), (valP (cutD s).1 9).2 && (valP (cutD s).2.1 9).2) else ((0, 0), false)
def rrec (l : List Seg) (n : Nat) : (Int × Int) × Bool := match (l[n]?).bind (fun x => x.els[2]?) with | none => ((0, 0), false) | some y => match y[0]? with | none => ((0, 0), false) | some s => rrecS s
theorem cut_at {s : ByteArray} {k : Nat} (hk : k < s.size) (h1 : ∀ j, j < k → byteAt s j ≠ 46) (h2 : byteAt s k = 46) : cutD s = (s.extract 0 k, s.extract (k + 1) s.size, true) := by
  have hi : Lib.index (bl s) [46] = (k : Nat) := by
    have e : bl s = (bl s).take k ++ 46 :: (bl s).drop (k + 1) := by
      rw [← h2, ← bl_get (by rw [bl_len]; exact hk), List.getElem_cons_drop, List.take_append_drop]
    rw [Lib.index_one, e, idx_byte _ _ _ (fun c hc => ?_), List.length_take, bl_len]
    · congr 1; omega
    · obtain ⟨j, hj, rfl⟩ := List.getElem_of_mem hc
      rw [List.length_take, bl_len] at hj
      rw [List.getElem_take, bl_get]
      exact h1 j (by omega)
  have e1 : ∀ a b, bl (s.extract a b) = ((bl s).drop a).take (b - a) := fun a b => by
    show (s.extract a b).data.toList = _
    rw [ByteArray.data_extract, Array.toList_extract, List.extract_eq_take_drop]; rfl
  unfold cutD Lib.cut
  rw [hi]
  simp only [show ((k : Nat) : Int) ≥ 0 from Int.natCast_nonneg k, if_true, Int.toNat_natCast]
  refine Prod.ext ?_ (Prod.ext ?_ ?_)
  · show (⟨_⟩ : ByteArray) = s.extract 0 k
    rw [← bl_str (s.extract 0 k), e1]
    simp
  · show (⟨_⟩ : ByteArray) = s.extract (k + 1) s.size
    rw [← bl_str (s.extract (k + 1) s.size), e1, List.take_of_length_le (by rw [List.length_drop, bl_len]; exact Nat.le_refl _)]
    simp
  · simp
theorem cut_no {s : ByteArray} (h : ∀ j, j < s.size → byteAt s j ≠ 46) : (cutD s).2.2 = false := by
  have hi : Lib.index (bl s) [46] = -1 := by
    rcases Lib.index_spec (bl s) [46] with h1 | ⟨i, h1, h2, h3⟩
    · exact h1.1
    · exfalso
      rw [Lib.index_one] at h1
      obtain ⟨h4, _⟩ := Lib.indexByte_some h1
      obtain ⟨hl, h5⟩ := List.getElem?_eq_some_iff.1 h4
      rw [bl_get hl] at h5
      exact h i (by rw [bl_len] at hl; exact hl) h5
  unfold cutD Lib.cut
  rw [hi]
  simp
def mkO (id fund : Int) (r : Int × Int) (copies price : Int) : Ord := ⟨id, fund, r.1, r.2, copies, price, 0, 0, 0⟩
def zeroO : Ord := ⟨0, 0, 0, 0, 0, 0, 0, 0, 0⟩
def recT (s n : Int) : ByteArray := (itoaS s ++ ⟨#[46]⟩) ++ itoaS n
def tU : ByteArray := ⟨#[85, 78, 72]⟩
def orderX (o : Ord) : List Seg :=
  [⟨⟨#[85, 78, 72]⟩, [[⟨#[49]⟩], [⟨#[79, 82, 68, 69, 82, 83]⟩, ⟨#[68]⟩, ⟨#[57, 54, 65]⟩, ⟨#[85, 78]⟩]]⟩,
   ⟨⟨#[66, 71, 77]⟩, [[⟨#[50, 50, 48]⟩], [itoaS o.id]]⟩,
   ⟨⟨#[76, 73, 78]⟩, [[itoaS 1], [⟨#[]⟩], [recT o.src o.num, ⟨#[83, 82, 86]⟩]]⟩,
   ⟨⟨#[81, 84, 89]⟩, [[⟨#[50, 49]⟩, itoaS o.copies]]⟩,
   ⟨⟨#[80, 82, 73]⟩, [[⟨#[65, 65, 65]⟩, itoaS o.price]]⟩,
   ⟨⟨#[82, 70, 70]⟩, [[⟨#[66, 70, 78]⟩, itoaS o.fund]]⟩,
   ⟨⟨#[85, 78, 84]⟩, [[⟨#[55]⟩], [⟨#[49]⟩]]⟩]
def nnO (o : Ord) : Prop := 0 ≤ o.id ∧ 0 ≤ o.fund ∧ 0 ≤ o.src ∧ 0 ≤ o.num ∧ 0 ≤ o.copies ∧ 0 ≤ o.price
def wrO (o : Ord) : Prop := (1 ≤ o.id ∧ o.id ≤ 999999999) ∧ (1 ≤ o.fund ∧ o.fund ≤ 999999999) ∧ (0 ≤ o.src ∧ o.src ≤ 999999999) ∧ (0 ≤ o.num ∧ o.num ≤ 999999999) ∧ (0 ≤ o.price ∧ o.price ≤ 999999999) ∧ (1 ≤ o.copies ∧ o.copies ≤ 9999)
instance (o : Ord) : Decidable (wrO o) := by unfold wrO; infer_instance
theorem writB_iff (o : Ord) : writB o = true ↔ wrO o := by
  unfold writB wi wrO
  simp only [List.any_cons, List.any_nil, Bool.or_false, Bool.and_eq_true, Bool.not_eq_true', Bool.or_eq_false_iff, decide_eq_false_iff_not]
  omega
theorem wrO_nn {o : Ord} (h : wrO o) : nnO o := by unfold wrO at h; unfold nnO; omega
theorem p3 (a b c : UInt8) (s : ByteArray) : (⟨#[a, b, c]⟩ : ByteArray) ++ s = ((⟨#[a, b]⟩ : ByteArray) ++ ⟨#[c]⟩) ++ s := rfl
theorem p4 (a b c d : UInt8) (s : ByteArray) : (⟨#[a, b, c, d]⟩ : ByteArray) ++ s = ((⟨#[a, b, c]⟩ : ByteArray) ++ ⟨#[d]⟩) ++ s := rfl
theorem c58 : ((58 : UInt8).toNat < 48 ∨ 57 < (58 : UInt8).toNat) := .inr (by decide)
theorem c46 : ((46 : UInt8).toNat < 48 ∨ 57 < (46 : UInt8).toNat) := .inl (by decide)
theorem recT_ne {s n : Int} (h1 : 0 ≤ s) (h2 : 0 ≤ n) : ∀ c ∈ bl (recT s n), c ≠ 58 := by
  intro c hc
  unfold recT at hc
  rw [bl_app, bl_app] at hc
  rcases List.mem_append.1 hc with hc | hc
  · rcases List.mem_append.1 hc with hc | hc
    · exact itoa_ne h1 c58 c hc
    · have : c = 46 := by simpa [bl] using hc
      rw [this]; decide
  · exact itoa_ne h2 c58 c hc
theorem art_split {s n : Int} (h1 : 0 ≤ s) (h2 : 0 ≤ n) : splitC (artS s n) = [recT s n, ⟨#[83, 82, 86]⟩] := by
  have e : artS s n = (recT s n ++ ⟨#[58]⟩) ++ ⟨#[83, 82, 86]⟩ := by
    rw [ByteArray.append_assoc]; rfl
  rw [e, split_one (recT_ne h1 h2) (by decide)]
theorem pre3 {a b : UInt8} {n : Int} (h : 0 ≤ n) (ha : a ≠ 58) (hb : b ≠ 58) : splitC ((⟨#[a, b, 58]⟩ : ByteArray) ++ itoaS n) = [⟨#[a, b]⟩, itoaS n] := by
  rw [p3, split_one (fun c hc => by
    have : c = a ∨ c = b := by simpa [bl] using hc
    rcases this with rfl | rfl <;> assumption) (itoa_ne h c58)]
theorem pre4 {a b d : UInt8} {n : Int} (h : 0 ≤ n) (ha : a ≠ 58) (hb : b ≠ 58) (hd : d ≠ 58) : splitC ((⟨#[a, b, d, 58]⟩ : ByteArray) ++ itoaS n) = [⟨#[a, b, d]⟩, itoaS n] := by
  rw [p4, split_one (fun c hc => by
    have : c = a ∨ c = b ∨ c = d := by simpa [bl] using hc
    rcases this with rfl | rfl | rfl <;> assumption) (itoa_ne h c58)]
theorem itoa_one : itoaS 1 = ⟨#[49]⟩ := by decide +kernel
theorem orderP_X {o : Ord} (h : nnO o) : orderP o = orderX o := by
  obtain ⟨h1, h2, h3, h4, h5, h6⟩ := h
  unfold orderP orderX
  rw [split_none (itoa_ne h1 c58), art_split h3 h4, pre3 h5 (by decide) (by decide), pre4 h6 (by decide) (by decide) (by decide), pre4 h2 (by decide) (by decide) (by decide), itoa_one]
  congr 1
theorem recS_T {s n : Int} (h1 : 0 ≤ s) (h2 : 0 ≤ n) : cutD (recT s n) = (itoaS s, itoaS n, true) := by
  have hsz : (recT s n).size = (itoaS s).size + 1 + (itoaS n).size := by unfold recT; rw [ByteArray.size_append, ByteArray.size_append]; rfl
  have hb : bl (recT s n) = bl (itoaS s) ++ 46 :: bl (itoaS n) := by unfold recT; rw [bl_app, bl_app, List.append_assoc]; rfl
  have hat : ∀ j, byteAt (recT s n) j = (bl (itoaS s) ++ 46 :: bl (itoaS n)).getD j 0 := fun j => by rw [← hb]; rfl
  rw [cut_at (k := (itoaS s).size) (by omega) (fun j hj => ?_) (by rw [hat, ← bl_len, List.getD_eq_getElem?_getD, List.getElem?_append_right (Nat.le_refl _), Nat.sub_self]; rfl)]
  · refine Prod.ext ?_ (Prod.ext ?_ rfl)
    · show (recT s n).extract 0 (itoaS s).size = _
      unfold recT; rw [ByteArray.append_assoc]; exact ext_app_l _ _
    · show (recT s n).extract ((itoaS s).size + 1) (recT s n).size = _
      have e : (itoaS s).size + 1 = (itoaS s ++ (⟨#[46]⟩ : ByteArray)).size := by rw [ByteArray.size_append]; rfl
      rw [e]; exact ext_app_r _ _
  · rw [hat, List.getD_eq_getElem?_getD, List.getElem?_append_left (by rw [bl_len]; exact hj), List.getElem?_eq_getElem (by rw [bl_len]; exact hj)]
    exact itoa_ne h1 c46 _ (List.getElem_mem _)
/-- What an order's segments are read as, by the program. -/
def rdE (l : List Seg) : Ord := mkO (readP (txt l 1 1 0)) (readP (txt l 5 0 1)) (recS (txt l 2 2 0)) (readP (txt l 3 0 1)) (readP (txt l 4 0 1))
def rdO (l : List Seg) : Ord × Int := if wrO (rdE l) ∧ orderP (rdE l) = l then (rdE l, 0) else (zeroO, 11)
def rdR (l : List Seg) : Ord := mkO (atP l 1 1 0).1 (atP l 5 0 1).1 (rrec l 2).1 (atP l 3 0 1).1 (atP l 4 0 1).1
def rrO (l : List Seg) : Ord × Int := if ((((rrec l 2).2 = true ∧ (atP l 1 1 0).2 = true) ∧ (atP l 3 0 1).2 = true) ∧ (atP l 4 0 1).2 = true) ∧ (atP l 5 0 1).2 = true ∧ wrO (rdR l) ∧ orderX (rdR l) = l then (rdR l, 0) else (zeroO, 11)
theorem val9 {n : Int} (h : 0 ≤ n) (h2 : n ≤ 999999999) : valP (itoaS n) 9 = (n, true) := by
  have e : (10 : Int) ^ (8 + 1) = 1000000000 := by decide
  exact valP_itoa h 8 (by omega)
theorem read9 {n : Int} (h : 0 ≤ n) (h2 : n ≤ 999999999) : readP (itoaS n) = n := readP_itoa h (by omega)
def normO (o : Ord) : Ord := { o with prom := 0, paid := 0, st := 0 }
theorem rd_of {o : Ord} (h : wrO o) : rdE (orderX o) = normO o ∧ rdR (orderX o) = normO o ∧ (rrec (orderX o) 2).2 = true ∧ (atP (orderX o) 1 1 0).2 = true ∧ (atP (orderX o) 3 0 1).2 = true ∧ (atP (orderX o) 4 0 1).2 = true ∧ (atP (orderX o) 5 0 1).2 = true := by
  obtain ⟨⟨a1, a2⟩, ⟨b1, b2⟩, ⟨c1, c2⟩, ⟨d1, d2⟩, ⟨e1, e2⟩, ⟨f1, f2⟩⟩ := h
  have t1 : txO (orderX o) 1 1 0 = some (itoaS o.id) := rfl
  have t2 : txO (orderX o) 2 2 0 = some (recT o.src o.num) := rfl
  have t3 : txO (orderX o) 3 0 1 = some (itoaS o.copies) := rfl
  have t4 : txO (orderX o) 4 0 1 = some (itoaS o.price) := rfl
  have t5 : txO (orderX o) 5 0 1 = some (itoaS o.fund) := rfl
  have hr : rrec (orderX o) 2 = rrecS (recT o.src o.num) := rfl
  have hr2 : rrecS (recT o.src o.num) = ((o.src, o.num), true) := by
    unfold rrecS; rw [recS_T c1 d1]; simp only [if_true, val9 c1 c2, val9 d1 d2]; rfl
  unfold rdE rdR atP txt
  rw [hr, hr2, t1, t2, t3, t4, t5]
  simp only [Option.getD_some, val9 (show 0 ≤ o.id by omega) a2, val9 (show 0 ≤ o.fund by omega) b2, val9 (show 0 ≤ o.copies by omega) (show o.copies ≤ 999999999 by omega), val9 e1 e2, read9 (show 0 ≤ o.id by omega) a2, read9 (show 0 ≤ o.fund by omega) b2, read9 (show 0 ≤ o.copies by omega) (show o.copies ≤ 999999999 by omega), read9 e1 e2]
  refine ⟨?_, ?_, trivial, trivial, trivial, trivial, trivial⟩
  · unfold recS; rw [recS_T c1 d1]; simp only [read9 c1 c2, read9 d1 d2]; rfl
  · rfl
theorem orderX_norm (o : Ord) : orderX (normO o) = orderX o := rfl
theorem rdO_of {o : Ord} (h : wrO o) : rdO (orderX o) = (normO o, 0) ∧ rrO (orderX o) = (normO o, 0) := by
  obtain ⟨h1, h2, h3, h4, h5, h6, h7⟩ := rd_of h
  have hw : wrO (normO o) := h
  unfold rdO rrO
  rw [h1, h2]
  rw [if_pos ⟨hw, by rw [orderP_X (wrO_nn hw)]; rfl⟩, if_pos ⟨⟨⟨⟨h3, h4⟩, h5⟩, h6⟩, h7, hw, rfl⟩]
  exact ⟨rfl, rfl⟩
/-- The program's reading is the reference's. -/
theorem rd_eq (l : List Seg) : rdO l = rrO l := by
  by_cases h1 : wrO (rdE l) ∧ orderP (rdE l) = l
  · have e : l = orderX (rdE l) := by rw [← orderP_X (wrO_nn h1.1)]; exact h1.2.symm
    generalize rdE l = o at h1 e
    subst e
    rw [(rdO_of h1.1).1, (rdO_of h1.1).2]
  · by_cases h2 : wrO (rdR l) ∧ orderX (rdR l) = l
    · exfalso
      have e : l = orderX (rdR l) := h2.2.symm
      apply h1
      generalize rdR l = o at h2 e
      subst e
      rw [(rd_of h2.1).1]
      exact ⟨h2.1, by rw [orderP_X (wrO_nn (show wrO (normO o) from h2.1))]; rfl⟩
    · unfold rdO rrO
      rw [if_neg h1, if_neg (fun h => h2 h.2.2)]
end Go.PK

/- Of the proofs of YtbamklefagghcaaGreatDoor; see NOTES.md. -/
/-! Comparisons with nil; small arithmetic on bytes. -/
namespace Go.PK
open Go Go.RowKit
set_option linter.unusedVariables false
section
variable {P : Program} {n : Nat} {l : List (Nat × Value)} {own : List (Nat × Obj)} {ro : List Snap} {ty t t' : TypeId} {x y : Operand} {k k' : IntKind} {a b : Int}
def isIface (v : Value) (b : Bool) : Prop := (v = .nilIface ∧ b = false) ∨ (∃ d u, v = .iface d u) ∧ b = true
theorem v_ine {td : TypeDesc} {v : Value} {b : Bool} (ht : P.underlying t = some td) (hi : (match td with | .interface _ => true | _ => false) = true) (hx : ev l x = some v) (hv : isIface v b) : OpV P n l own ro (.binOp .neq t x (.const .nilIface) t') ty (.bool b) := by
  intro A w o ha _ ho _
  have e : A.eval (.const .nilIface) = .nilIface := rfl
  cases td <;> simp at hi
  rcases hv with ⟨rfl, rfl⟩ | ⟨⟨d, u, rfl⟩, rfl⟩
  · have h : ∀ d : Nat, (Op.equalIn (d + 1) t .nilIface .nilIface).run P w = .ok true w := fun d => by simp [Op.equalIn, run_underlying ht]
    have h2 : (Op.equal t .nilIface .nilIface).run P w = .ok true w := h 9999
    simp [execOp, ho, ha.eval hx, e, eqGuard, binOp, h2]
  · have h : ∀ q : Nat, (Op.equalIn (q + 1) t (.iface d u) .nilIface).run P w = .ok false w := fun q => by simp [Op.equalIn, run_underlying ht]
    have h2 : (Op.equal t (.iface d u) .nilIface).run P w = .ok false w := h 9999
    simp [execOp, ho, ha.eval hx, e, eqGuard, binOp, h2]
theorem v_sliceNil {e : TypeId} {A : Option Addr} {m c : Nat} (ht : P.underlying t = some (.slice e)) (hx : ev l x = some (.slice A m c)) : OpV P n l own ro (.binOp .eql t x (.const (.slice none 0 0)) t') ty (.bool A.isNone) := by
  intro a w o ha _ ho _
  have e0 : a.eval (.const (.slice none 0 0)) = .slice none 0 0 := rfl
  have h : ∀ d : Nat, (Op.equalIn (d + 1) t (.slice A m c) (.slice none 0 0)).run P w = .ok A.isNone w := fun d => by
    cases A <;> simp [Op.equalIn, run_underlying ht]
  have h2 : (Op.equal t (.slice A m c) (.slice none 0 0)).run P w = .ok A.isNone w := h 9999
  simp [execOp, ho, ha.eval hx, e0, eqGuard, binOp, h2]
theorem v_subU8 {a b : Nat} (hx : ev l x = some (.int .u8 (a : Nat))) (hy : ev l y = some (.int .u8 (b : Nat))) (h : b ≤ a) (h2 : a < 256) : OpV P n l own ro (.binOp .sub t x y t') ty (.int .u8 ((a - b : Nat) : Int)) := by
  have h3 := v_sub (P := P) (n := n) (own := own) (ro := ro) (ty := ty) (t := t) (t' := t') hx hy
  rw [IntKind.wrap_u8, show ((a : Int) - (b : Int)) % 256 = ((a - b : Nat) : Int) by omega] at h3
  exact h3
/-- 'byte(z)' of a number that is one. -/
theorem v_convU8 {td : TypeDesc} {c : Nat} (hs : P.underlying t = some td) (hd : P.underlying t' = some (.int .u8)) (hx : ev l x = some (.int k (c : Nat))) (h : c < 256) : OpV P n l own ro (.convert t t' x) ty (.int .u8 (((UInt8.ofNat c).toNat : Nat) : Int)) := by
  have h3 := v_conv (n := n) (own := own) (ro := ro) (ty := ty) hs hd hx
  rw [IntKind.wrap_u8, show ((c : Nat) : Int) % 256 = ((c : Nat) : Int) by omega] at h3
  rw [UInt8.toNat_ofNat_of_lt' (by show _ < 256; omega)]
  exact h3
end
end Go.PK

/- Of the proofs of YtbamklefagghcaaGreatDoor; see NOTES.md. -/
/-! Components of segments, read; results of which one lies in a cell. -/
namespace Go.PK
open Go Go.RowKit
set_option linter.unusedVariables false
section
variable {P : Program} {n : Nat} {l : List (Nat × Value)} {own : List (Nat × Obj)} {ro : List Snap} {Q : Exit → Act → World → Prop} {K : Act → World → Prop} {R : Ending → World → Prop} {fn : Func}
/-- Two results, the first in a block of the call's own. -/
theorem retct {t u : Tmp} {ty : TypeId} {td : TypeDesc} {b : Nat} {cs : Array Value} {e : TypeId} {fz : Nat × Nat} {v : Value} (hr : fn.results = #[.cell t ty, .tmp u]) (hv : l.lookup t = some (.pointer (some ⟨b, 0, none⟩))) (hu : l.lookup u = some v) (hb : (b, Obj.cells cs e fz) ∈ own)
    (ht : P.underlying ty = some td) (hd : aggT td = true) (hs : (P.info? ty).map (·.size) = some cs.size) (h : ∀ w', Mem w' own ro → R (.returned (.tuple #[.agg cs, v])) w') : S (bodyPost P fn R .ret) n l own ro := by
  intro a w ha hw
  refine ⟨ha.df, _, ?_, h w hw⟩
  have h1 := ha.at_ t _ hv
  have h2 := ha.at_ u _ hu
  rw [results_cell_tmp hr, show a.tmps.getD t undef = .pointer (some ⟨b, 0, none⟩) by simp [Array.getD_eq_getD_getElem?, h1], show a.tmps.getD u undef = v by simp [Array.getD_eq_getD_getElem?, h2]]
  simp [asAddr, run_loadVar_row w b e ty cs fz td (hw.own_at _ hb) ht (by cases td <;> simp_all [aggT]) hs]
end
theorem calls_clp {P : Program} {f : FuncId} {u v : Value} {w : World} {Q : Ending → World → Prop} (h : Calls P f #[u, v] w Q) : Calls P f (#[u, v] ++ #[]) w Q := by simpa using h
def segD (l : List Seg) (n : Nat) : Seg := l.getD n ⟨⟨#[]⟩, []⟩
def elsD (x : List (List ByteArray)) (e : Nat) : List ByteArray := x.getD e []
theorem seg_there {D : Nat → Prop} {w : World} {A : Option Addr} {m c : Nat} {l : List Seg} (h : sliceRd tySeg D w (.slice A m c) l) (n : Nat) :
    ∃ b off EA ec, n < l.length → A = some ⟨b, off, none⟩ ∧ D b ∧ w.cell? ⟨b, off + n * 2, none⟩ = some (.string (segD l n).tag) ∧ w.cell? ⟨b, off + n * 2 + 1, none⟩ = some (.slice EA (segD l n).els.length ec) ∧ okS (segD l n).tag ∧ sliceRd (tySlice tyStr) D w (.slice EA (segD l n).els.length ec) (segD l n).els := by
  by_cases hn : n < l.length
  · obtain ⟨b, o, v, h1, h2, h3, h4, h5, h6⟩ := seg_at h hn
    obtain ⟨EA, ec, rfl, _⟩ := id h6
    exact ⟨b, o, EA, ec, fun _ => by unfold segD; rw [getD_at hn]; exact ⟨h1, h2, h3, h4, h5, h6⟩⟩
  · exact ⟨0, 0, none, 0, fun h => absurd h hn⟩
theorem els_there {D : Nat → Prop} {w : World} {A : Option Addr} {m c : Nat} {x : List (List ByteArray)} {K : Prop} (h : K → sliceRd (tySlice tyStr) D w (.slice A m c) x) (e : Nat) :
    ∃ b off FA fc, K → e < x.length → A = some ⟨b, off, none⟩ ∧ D b ∧ w.cell? ⟨b, off + e, none⟩ = some (.slice FA (elsD x e).length fc) ∧ sliceRd tyStr D w (.slice FA (elsD x e).length fc) (elsD x e) := by
  by_cases hk : K
  · by_cases he : e < x.length
    · obtain ⟨b, o, v, h1, h2, h3, h4⟩ := sl_at (h hk) he
      obtain ⟨FA, fc, rfl, _⟩ := id h4
      exact ⟨b, o, FA, fc, fun _ _ => by unfold elsD; rw [getD_at he]; exact ⟨h1, h2, h3, h4⟩⟩
    · exact ⟨0, 0, none, 0, fun _ h => absurd h he⟩
  · exact ⟨0, 0, none, 0, fun h => absurd h hk⟩
theorem txO_in {l : List Seg} {n e c : Nat} (h1 : n < l.length) (h2 : e < (segD l n).els.length) (h3 : c < (elsD (segD l n).els e).length) : txO l n e c = some ((elsD (segD l n).els e)[c]) := by
  have k1 : l[n]? = some (segD l n) := by unfold segD; rw [getD_at h1, List.getElem?_eq_getElem h1]
  have k2 : (segD l n).els[e]? = some (elsD (segD l n).els e) := by unfold elsD; rw [getD_at h2, List.getElem?_eq_getElem h2]
  unfold txO
  rw [k1]
  simp only [Option.bind_some, k2]
  rw [List.getElem?_eq_getElem h3]
theorem txO_out {l : List Seg} {n e c : Nat} (h : ¬(n < l.length ∧ e < (segD l n).els.length ∧ c < (elsD (segD l n).els e).length)) : txO l n e c = none := by
  unfold txO
  by_cases h1 : n < l.length
  · have k1 : l[n]? = some (segD l n) := by unfold segD; rw [getD_at h1, List.getElem?_eq_getElem h1]
    rw [k1]
    simp only [Option.bind_some]
    by_cases h2 : e < (segD l n).els.length
    · have k2 : (segD l n).els[e]? = some (elsD (segD l n).els e) := by unfold elsD; rw [getD_at h2, List.getElem?_eq_getElem h2]
      rw [k2]
      simp only [Option.bind_some]
      exact List.getElem?_eq_none (by have := fun h3 => h ⟨h1, h2, h3⟩; omega)
    · rw [List.getElem?_eq_none (by omega)]; rfl
  · rw [List.getElem?_eq_none (by omega)]; rfl
theorem rrec_in {l : List Seg} {n : Nat} (h1 : n < l.length) (h2 : 2 < (segD l n).els.length) (h3 : 0 < (elsD (segD l n).els 2).length) : rrec l n = rrecS ((elsD (segD l n).els 2)[0]) := by
  have k1 : l[n]? = some (segD l n) := by unfold segD; rw [getD_at h1, List.getElem?_eq_getElem h1]
  have k2 : (segD l n).els[2]? = some (elsD (segD l n).els 2) := by unfold elsD; rw [getD_at h2, List.getElem?_eq_getElem h2]
  unfold rrec
  rw [k1]
  simp only [Option.bind_some, k2]
  rw [List.getElem?_eq_getElem h3]
theorem rrec_out {l : List Seg} {n : Nat} (h : ¬(n < l.length ∧ 2 < (segD l n).els.length ∧ 0 < (elsD (segD l n).els 2).length)) : rrec l n = ((0, 0), false) := by
  unfold rrec
  by_cases h1 : n < l.length
  · have k1 : l[n]? = some (segD l n) := by unfold segD; rw [getD_at h1, List.getElem?_eq_getElem h1]
    rw [k1]
    simp only [Option.bind_some]
    by_cases h2 : 2 < (segD l n).els.length
    · have k2 : (segD l n).els[2]? = some (elsD (segD l n).els 2) := by unfold elsD; rw [getD_at h2, List.getElem?_eq_getElem h2]
      rw [k2]
      dsimp only
      rw [List.getElem?_eq_none (by have := fun h3 => h ⟨h1, h2, h3⟩; omega)]
    · rw [List.getElem?_eq_none (by omega)]
  · rw [List.getElem?_eq_none (by omega)]; rfl
end Go.PK

/- Of the proofs of YtbamklefagghcaaGreatDoor; see NOTES.md. -/
/-! Orders: what their segments are read as; sizes. -/
namespace Go.PK
open Go Go.RowKit
set_option linter.unusedVariables false
theorem rdO_nil : rdO [] = (zeroO, 11) := by decide +kernel
theorem rdO_order (o : Ord) : rdO (orderR o) = if writB o then (normO o, 0) else (zeroO, 11) := by
  unfold orderR
  by_cases h : writB o = true
  · rw [if_pos h, if_pos h, orderP_X (wrO_nn ((writB_iff o).1 h))]
    exact (rdO_of ((writB_iff o).1 h)).1
  · rw [if_neg h, if_neg h, rdO_nil]
theorem orderR_len (o : Ord) : (orderR o).length = if writB o then 7 else 0 := by
  unfold orderR
  by_cases h : writB o = true
  · rw [if_pos h, if_pos h]; rfl
  · rw [if_neg h, if_neg h]; rfl
theorem itoa9 {n : Int} (h : 0 ≤ n) (h2 : n ≤ 999999999) : (itoaS n).size ≤ 9 := by
  refine (itoa_sz h 8).2 ?_
  have e : (10 : Int) ^ (8 + 1) = 1000000000 := by decide
  rw [e]; omega
theorem recT9 {s n : Int} (h1 : 0 ≤ s) (h2 : s ≤ 999999999) (h3 : 0 ≤ n) (h4 : n ≤ 999999999) : (recT s n).size ≤ 19 := by
  have e : (recT s n).size = (itoaS s).size + 1 + (itoaS n).size := by unfold recT; rw [ByteArray.size_append, ByteArray.size_append]; rfl
  have := itoa9 h1 h2; have := itoa9 h3 h4; omega
theorem order_big (o : Ord) : ∀ x ∈ orderR o, ∀ y ∈ x.els, ∀ s ∈ y, s.size ≤ 2000000000 := by
  unfold orderR
  by_cases h : writB o = true
  · rw [if_pos h]
    have hw := (writB_iff o).1 h
    rw [orderP_X (wrO_nn hw)]
    obtain ⟨⟨a1, a2⟩, ⟨b1, b2⟩, ⟨c1, c2⟩, ⟨d1, d2⟩, ⟨e1, e2⟩, ⟨f1, f2⟩⟩ := hw
    have k1 := itoa9 (show 0 ≤ o.id by omega) a2
    have k2 := itoa9 (show 0 ≤ o.fund by omega) b2
    have k3 := itoa9 (show 0 ≤ o.copies by omega) (show o.copies ≤ 999999999 by omega)
    have k4 := itoa9 e1 e2
    have k5 := recT9 c1 c2 d1 d2
    have k6 := itoa9 (show (0 : Int) ≤ 1 by omega) (by omega)
    unfold orderX
    simp only [List.forall_mem_cons, List.not_mem_nil, false_imp_iff, implies_true, and_true]
    repeat' apply And.intro
    all_goals first | decide | omega
  · rw [if_neg h]; intro x hx; cases hx
/-- The order of a law's second round: all its numbers may be written. -/
def smallO (o : Ord) : Ord := ⟨1 + o.id % 999999999, 1 + o.fund % 999999999, o.src % 1000000000, o.num % 1000000000, 1 + o.copies % 9999, o.price % 1000000000, o.prom, o.paid, o.st⟩
theorem small_okA {o : Ord} (h : o.okA) : (smallO o).okA := by
  obtain ⟨_, h1, h2, h3⟩ := h
  refine ⟨?_, h1, h2, h3⟩
  unfold Ord.ok smallO in64
  dsimp only
  omega
theorem two_at {o s : Ord} {k j : Nat} (hk : k < 2) (hj : j < 9) : (o.cells ++ s.cells)[k * 9 + j]? = some (((if k = 0 then o else s).cells)[j]'hj) := by
  match k, hk with
  | 0, _ => rw [List.getElem?_append_left (by show _ < 9; omega), show 0 * 9 + j = j by omega]; exact List.getElem?_eq_getElem hj
  | 1, _ => rw [List.getElem?_append_right (by show 9 ≤ _; omega), show 1 * 9 + j - o.cells.length = j by show 1 * 9 + j - 9 = j; omega]; exact List.getElem?_eq_getElem hj
end Go.PK

/- Of the proofs of YtbamklefagghcaaGreatDoor; see NOTES.md. -/
namespace Go.PK
open Go Go.RowKit
section
variable {P : Program} {n : Nat} {l : List (Nat × Value)} {own : List (Nat × Obj)} {ro : List Snap} {ty t t' : TypeId} {x y : Operand} {xs ys : Array Value} {b : Bool}
/-- Structs are compared. -/
theorem v_eqA (hm : P.eqGuardType P.depth t = false) (hx : ev l x = some (.agg xs)) (hy : ev l y = some (.agg ys)) (he : ∀ w, (Op.equalIn 10000 t (.agg xs) (.agg ys)).run P w = .ok b w) : OpV P n l own ro (.binOp .eql t x y t') ty (.bool b) := by
  intro A w o ha _ ho _
  simp [execOp, ho, ha.eval hx, ha.eval hy, run_eqGuard_agg w .eql t x y xs ys hm, run_eql_struct, he]
theorem v_neA (hm : P.eqGuardType P.depth t = false) (hx : ev l x = some (.agg xs)) (hy : ev l y = some (.agg ys)) (he : ∀ w, (Op.equalIn 10000 t (.agg xs) (.agg ys)).run P w = .ok b w) : OpV P n l own ro (.binOp .neq t x y t') ty (.bool (!b)) := by
  intro A w o ha _ ho _
  simp [execOp, ho, ha.eval hx, ha.eval hy, run_eqGuard_agg w .neq t x y xs ys hm, run_neq_struct, he]
end
end Go.PK

/- Of the proofs of YtbamklefagghcaaGreatDoor; see NOTES.md. -/
/-! Small arrays among the arguments of a law. -/
namespace Go.PK
open Go Go.RowKit
set_option linter.unusedVariables false
section
variable {P : Program} {H : Type} {enc : TypeId × Value → H} {W : World} {base b0 : Nat} {sp : Nat → Bool} {held : Bool} {r : Reach} {t e : TypeId} {v : Value} {d : DataW H} {ps : List MemPlace}
theorem top_kn {k : IntKind} {n : Nat} (ht : P.underlying t = some (.array n e)) (hc : P.cellsOf t = n) (hn : 0 < n) (he : P.underlying e = some (.int k)) (hce : P.cellsOf e = 1) (hval : Value.okWide P W r b0 t v) (h : DataW.Trod enc P W base sp held t v d ps) :
    ∃ xs : List Int, v = .agg (xs.map (Value.int k)).toArray ∧ xs.length = n ∧ ∀ x ∈ xs, k.min ≤ x ∧ x ≤ k.max := by
  obtain ⟨cs, xs, rfl, hrd⟩ := top_agg ht rfl (rdr_arr (T := tyK k) ht (by rw [hc]; exact (Nat.mul_one n).symm) hn (rdr_k he hce)) hval h
  obtain ⟨h1, h2, h3⟩ := arr_k hrd
  exact ⟨xs, by rw [← h1], h2, h3⟩
theorem top_k2 {k : IntKind} (ht : P.underlying t = some (.array 2 e)) (hc : P.cellsOf t = 2) (he : P.underlying e = some (.int k)) (hce : P.cellsOf e = 1) (hval : Value.okWide P W r b0 t v) (h : DataW.Trod enc P W base sp held t v d ps) :
    ∃ a b : Int, v = .agg #[.int k a, .int k b] ∧ (k.min ≤ a ∧ a ≤ k.max) ∧ k.min ≤ b ∧ b ≤ k.max := by
  obtain ⟨xs, rfl, hl, hx⟩ := top_kn ht hc (by decide) he hce hval h
  match xs, hl with
  | [a, b], _ => exact ⟨a, b, rfl, hx a (by simp), hx b (by simp)⟩
theorem top_k3 {k : IntKind} (ht : P.underlying t = some (.array 3 e)) (hc : P.cellsOf t = 3) (he : P.underlying e = some (.int k)) (hce : P.cellsOf e = 1) (hval : Value.okWide P W r b0 t v) (h : DataW.Trod enc P W base sp held t v d ps) :
    ∃ a b c : Int, v = .agg #[.int k a, .int k b, .int k c] ∧ (k.min ≤ a ∧ a ≤ k.max) ∧ (k.min ≤ b ∧ b ≤ k.max) ∧ k.min ≤ c ∧ c ≤ k.max := by
  obtain ⟨xs, rfl, hl, hx⟩ := top_kn ht hc (by decide) he hce hval h
  match xs, hl with
  | [a, b, c], _ => exact ⟨a, b, c, rfl, hx a (by simp), hx b (by simp), hx c (by simp)⟩
theorem top_k4 {k : IntKind} (ht : P.underlying t = some (.array 4 e)) (hc : P.cellsOf t = 4) (he : P.underlying e = some (.int k)) (hce : P.cellsOf e = 1) (hval : Value.okWide P W r b0 t v) (h : DataW.Trod enc P W base sp held t v d ps) :
    ∃ a b c f : Int, v = .agg #[.int k a, .int k b, .int k c, .int k f] ∧ (k.min ≤ a ∧ a ≤ k.max) ∧ (k.min ≤ b ∧ b ≤ k.max) ∧ (k.min ≤ c ∧ c ≤ k.max) ∧ k.min ≤ f ∧ f ≤ k.max := by
  obtain ⟨xs, rfl, hl, hx⟩ := top_kn ht hc (by decide) he hce hval h
  match xs, hl with
  | [a, b, c, f], _ => exact ⟨a, b, c, f, rfl, hx a (by simp), hx b (by simp), hx c (by simp), hx f (by simp)⟩
end
end Go.PK

/- Of the proofs of YtbamklefagghcaaGreatDoor; see NOTES.md. -/
/-! Readers under a bound on the bulk. -/
namespace Go.PK
open Go Go.ChangeShapes Go.WideShapes Go.ChangeAt Go.RowKit
set_option linter.unusedVariables false
/-- A measure of readings. -/
structure Meas (H : Type) where
  f : DataW H → Nat
  all : List (DataW H) → Nat
  str : ∀ bs, f (.lit (.string bs)) = bs.length + 1
  slice : ∀ es sp, f (.slice es sp) = all es + all sp + 1
  agg : ∀ ps, f (.agg ps) = all ps + 1
  cons : ∀ d r, all (d :: r) = f d + all r
  one : ∀ d, 1 ≤ f d
theorem Meas.mem_le {H : Type} (M : Meas H) : ∀ {l : List (DataW H)} {d : DataW H}, d ∈ l → M.f d ≤ M.all l
  | x :: r, d, h => by
    rw [M.cons]
    rcases List.mem_cons.1 h with rfl | h
    · omega
    · have := M.mem_le h; omega
theorem Meas.len_le {H : Type} (M : Meas H) : ∀ (l : List (DataW H)), l.length ≤ M.all l
  | [] => Nat.zero_le _
  | x :: r => by
    rw [M.cons, List.length_cons]
    have h1 := M.len_le r
    have h2 := M.one x
    omega
structure RdrN {α : Type} (P : Program) (t : TypeId) (T : Ty α) (N : Nat) : Prop where
  size : P.cellsOf t = T.size
  pos : 0 < T.size
  rd : ∀ {H : Type} {enc : TypeId × Value → H} {w : World} {base : Nat} {sp : Nat → Bool} {held : Bool} {fuel : Nat} {cs : List Value} {x : DataW H × List MemPlace} (M : Meas H), M.f x.1 ≤ N → DataW.trod enc P w base sp held fuel t cs = some x → ∃ y, T.rd (fun _ => True) w cs y
theorem Rdr.N {α : Type} {P : Program} {t : TypeId} {T : Ty α} {N : Nat} (R : Rdr P t T) : RdrN P t T N := ⟨R.size, R.pos, fun _ _ h => R.rd h⟩
def tyStrN (N : Nat) : Ty ByteArray where
  size := 1
  rd := fun _ _ cs x => cs = [.string x] ∧ x.size ≤ N
  len := fun h => by rw [h.1]; rfl
  keep := fun h _ => h
def tySliceN {α : Type} (T : Ty α) (N : Nat) : Ty (List α) where
  size := 1
  rd := fun D w cs xs => ∃ v, cs = [v] ∧ sliceRd T D w v xs ∧ xs.length ≤ N
  len := fun ⟨v, h, _⟩ => by rw [h]; rfl
  keep := fun ⟨v, h, h2, h3⟩ hk => ⟨v, h, h2.keep hk, h3⟩
section
variable {P : Program} {H : Type} {enc : TypeId × Value → H}
theorem rdr_sN {t : TypeId} {N : Nat} (ht : P.underlying t = some .string) (hc : P.cellsOf t = 1) : RdrN P t (tyStrN N) N :=
  ⟨hc, Nat.one_pos, fun M hM h => by
    obtain ⟨s, rfl, rfl, hw⟩ := DataW.trod_string ht h
    simp only [M.str] at hM
    have e : s.data.toList.length = s.size := by rw [Array.length_toList]; rfl
    exact ⟨s, rfl, by omega⟩⟩
theorem trod_rdN {α : Type} {T : Ty α} {t e : TypeId} {N fuel base : Nat} {sp : Nat → Bool} {held : Bool} {w : World} {cs : List Value} {x : DataW H × List MemPlace} (ht : P.underlying t = some (.slice e)) (R : RdrN P e T N) (M : Meas H) (hN : M.f x.1 ≤ N) (h : DataW.trod enc P w base sp held fuel t cs = some x) :
    ∃ v xs, cs = [v] ∧ sliceRd T (fun _ => True) w v xs ∧ xs.length ≤ N ∧ ∃ a l c, v = .slice a l c := by
  rcases Go.Deep.open_slice ht h with ⟨rfl, _⟩ | ⟨a, len, cap, m, n, D, Pl, rfl, hb, hl, hm, hmm, hxe, hx⟩
  · exact ⟨_, [], rfl, ⟨none, 0, rfl, Nat.le_refl _, Nat.zero_le _, fun h => by simp at h⟩, Nat.zero_le _, _, _, _, rfl⟩
  · have hlm : len ≤ m := by rw [hmm]; split <;> omega
    have hx' : ∀ i, i < len → ∃ p : List Value × α, w.cells? base (a.add (i * P.cellsOf e)) (P.cellsOf e) = some p.1 ∧ T.rd (fun _ => True) w p.1 p.2 := fun i hi => by
      obtain ⟨cs', h1, h2⟩ := hx i (by omega)
      have hfi : M.f (D i) ≤ N := by
        subst hxe
        have h3 := M.mem_le (List.mem_map.2 ⟨i, List.mem_range.2 hi, rfl⟩ : D i ∈ (List.range len).map D)
        simp only [M.slice] at hN
        omega
      obtain ⟨y, hy⟩ := R.rd M hfi h2
      exact ⟨⟨cs', y⟩, h1, hy⟩
    rcases Nat.eq_zero_or_pos len with h0 | h0
    · subst h0
      exact ⟨_, [], rfl, ⟨some a, cap, rfl, Nat.zero_le _, Nat.zero_le _, fun h => by simp at h⟩, Nat.zero_le _, _, _, _, rfl⟩
    · have hspot : a.spot = none := by
        obtain ⟨p, h1, h2⟩ := hx' 0 h0
        have hpl : 0 < P.cellsOf e := by rw [R.size]; exact R.pos
        unfold World.cells? at h1
        split at h1
        · have := mapM_some_get h1 0 0 (by rw [List.getElem?_range hpl])
          have hlen : p.1.length = P.cellsOf e := by simpa using mapM_some_length h1
          rw [List.getElem?_eq_getElem (by omega)] at this
          have e0 : (a.add (0 * P.cellsOf e)).add 0 = a := by simp [Addr.add]
          rw [e0] at this
          unfold World.cell? at this
          split at this
          · split at this
            · cases this
            · rename_i hns; simpa using hns
          · cases this
        · cases h1
      obtain ⟨b, off, sp'⟩ := a
      simp only at hspot
      subst hspot
      let F : (i : Nat) → (i < len) → List Value × α := fun i hi => (hx' i hi).choose
      have hF : ∀ i (hi : i < len), w.cells? base ((⟨b, off, none⟩ : Addr).add (i * P.cellsOf e)) (P.cellsOf e) = some (F i hi).1 ∧ T.rd (fun _ => True) w (F i hi).1 (F i hi).2 := fun i hi => (hx' i hi).choose_spec
      refine ⟨_, List.ofFn (fun i : Fin len => (F i.1 i.2).2), rfl, ⟨_, cap, by rw [List.length_ofFn], by rw [List.length_ofFn]; exact hl, by rw [List.length_ofFn]; unfold maxLen at hm; omega, fun _ => ⟨b, off, rfl, trivial, ?_, fun j hj => ?_⟩⟩, ?_, _, _, _, rfl⟩
      · obtain ⟨h1, h2⟩ := hF 0 h0
        have hpl : 0 < P.cellsOf e := by rw [R.size]; exact R.pos
        unfold World.cells? at h1
        split at h1
        · have := mapM_some_get h1 0 0 (by rw [List.getElem?_range hpl])
          have hlen : (F 0 h0).1.length = P.cellsOf e := by simpa using mapM_some_length h1
          rw [List.getElem?_eq_getElem (by omega)] at this
          have := cell_lt this
          simpa [Addr.add] using this
        · cases h1
      · have hj' : j < len := by simpa using hj
        obtain ⟨h1, h2⟩ := hF j hj'
        refine ⟨(F j hj').1, fun i hi => ?_, by simpa using h2⟩
        unfold World.cells? at h1
        split at h1
        · have hlen : (F j hj').1.length = P.cellsOf e := by simpa using mapM_some_length h1
          have := mapM_some_get h1 i i (by rw [List.getElem?_range (by omega)])
          rw [List.getElem?_eq_getElem hi, mk_add, mk_add, R.size] at this
          exact this
        · cases h1
      · rw [List.length_ofFn]
        subst hxe
        have h3 := M.len_le ((List.range len).map D)
        simp only [M.slice] at hN
        rw [List.length_map, List.length_range] at h3
        omega
theorem rdr_sliceN {α : Type} {T : Ty α} {t e : TypeId} {N : Nat} (ht : P.underlying t = some (.slice e)) (hc : P.cellsOf t = 1) (R : RdrN P e T N) : RdrN P t (tySliceN T N) N :=
  ⟨hc, Nat.one_pos, fun M hM h => by
    obtain ⟨v, xs, rfl, hs, hl, _⟩ := trod_rdN ht R M hM h
    exact ⟨xs, v, rfl, hs, hl⟩⟩
end
section
variable {H : Type} {enc : TypeId × Value → H} {P : Program} {W : World} {base b0 : Nat} {sp : Nat → Bool} {held : Bool} {r : Reach} {t e : TypeId} {v : Value} {d : DataW H} {ps : List MemPlace}
theorem top_sliceN {α : Type} {T : Ty α} {N : Nat} (ht : P.underlying t = some (.slice e)) (R : RdrN P e T N) (M : Meas H) (hM : M.f d ≤ N) (hval : Value.okWide P W r b0 t v) (h : DataW.Trod enc P W base sp held t v d ps) : ∃ xs, sliceRd T (fun _ => True) W v xs ∧ xs.length ≤ N := by
  obtain ⟨n, hn⟩ := h
  obtain ⟨v', xs, hc, hrd, hl, a, l, c, rfl⟩ := trod_rdN ht R M hM hn
  have : v = .slice a l c := by
    cases v <;> simp_all [Value.okWide, Cell.okWide, Cell.ok, Value.cells]
  subst this
  exact ⟨xs, hrd, hl⟩
theorem top_strN {N : Nat} (ht : P.underlying t = some .string) (M : Meas H) (hM : M.f d ≤ N) (hval : Value.okWide P W r b0 t v) (h : DataW.Trod enc P W base sp held t v d ps) : ∃ s, v = .string s ∧ s.size ≤ N := by
  obtain ⟨n, hn⟩ := h
  obtain ⟨s, hs, hx, hw⟩ := DataW.trod_string ht hn
  have : v = .string s := by
    cases v <;> simp_all [Value.okWide, Cell.okWide, Cell.ok, Value.cells]
  subst this
  have hx : d = .lit (.string s.data.toList) := congrArg Prod.fst hx
  subst hx
  rw [M.str] at hM
  have e : s.data.toList.length = s.size := by rw [Array.length_toList]; rfl
  exact ⟨s, rfl, by omega⟩
/-- A weaker reading. -/
theorem sliceRd.weak {α : Type} {T T' : Ty α} {D : Nat → Prop} {v : Value} {xs : List α} {w : World} (h : sliceRd T D w v xs) (hs : T'.size = T.size) (hT : ∀ cs x, T.rd D w cs x → T'.rd D w cs x) : sliceRd T' D w v xs := by
  obtain ⟨A, c, h1, h2, h3, h4⟩ := h
  refine ⟨A, c, h1, h2, h3, fun h0 => ?_⟩
  obtain ⟨b, off, e, hD, hb, hc⟩ := h4 h0
  refine ⟨b, off, e, hD, hb, fun j hj => ?_⟩
  obtain ⟨cs, k1, k2⟩ := hc j hj
  exact ⟨cs, fun i hi => by rw [hs]; exact k1 i hi, hT _ _ k2⟩
theorem sliceRd.each {α : Type} {T : Ty α} {D : Nat → Prop} {v : Value} {xs : List α} {w : World} (h : sliceRd T D w v xs) {Q : α → Prop} (hT : ∀ cs x, T.rd D w cs x → Q x) : ∀ x ∈ xs, Q x := by
  intro x hx
  obtain ⟨A, c, h1, h2, h3, h4⟩ := h
  obtain ⟨b, off, e, hD, hb, hc⟩ := h4 (List.length_pos_of_mem hx)
  obtain ⟨j, hj, rfl⟩ := List.getElem_of_mem hx
  obtain ⟨cs, k1, k2⟩ := hc j hj
  exact hT _ _ k2
theorem strN_weak {N : Nat} (hN : N ≤ 9223372036854775807) {D : Nat → Prop} {v : Value} {xs : List ByteArray} {w : World} (h : sliceRd (tyStrN N) D w v xs) : sliceRd tyStr D w v xs ∧ ∀ x ∈ xs, x.size ≤ N :=
  ⟨h.weak rfl (fun _ _ h => ⟨h.1, by unfold okS; exact Nat.le_trans h.2 hN⟩), h.each (fun _ _ h => h.2)⟩
end
end Go.PK

/- Of the proofs of YtbamklefagghcaaGreatDoor; see NOTES.md. -/
/-! What an order reads as. -/
namespace Go.PK
open Go Go.RowKit
set_option linter.unusedVariables false
theorem rdr_conv {α β : Type} {P : Program} {t : TypeId} {U : Ty β} {T : Ty α} (hs : U.size = T.size) (f : ∀ w cs y, U.rd (fun _ => True) w cs y → ∃ z, T.rd (fun _ => True) w cs z) (R : Rdr P t U) : Rdr P t T :=
  ⟨by rw [R.size, hs], by rw [← hs]; exact R.pos, fun h => by obtain ⟨y, hy⟩ := R.rd h; exact f _ _ y hy⟩
abbrev tyRecU : Ty (Int × Int × Unit) := tyCons tyI (tyCons tyI tyNil)
abbrev tyOrdU : Ty (Int × Int × (Int × Int × Unit) × Int × Int × Int × Int × Int × Unit) := tyCons tyI (tyCons tyI (tyCons tyRecU (tyCons tyI (tyCons tyI (tyCons tyI (tyCons tyI (tyCons tyI tyNil)))))))
theorem ord_conv (w : World) (cs : List Value) (y : Int × Int × (Int × Int × Unit) × Int × Int × Int × Int × Int × Unit) (h : tyOrdU.rd (fun _ => True) w cs y) : ∃ o : Ord, tyOrd.rd (fun _ => True) w cs o := by
  obtain ⟨y1, y2, ⟨y3, y4, _⟩, y5, y6, y7, y8, y9, _⟩ := y
  obtain ⟨_, _, rfl, ⟨e1, k1⟩, _, _, rfl, ⟨e2, k2⟩, _, _, rfl, ⟨_, _, rfl, ⟨e3, k3⟩, _, _, rfl, ⟨e4, k4⟩, e4'⟩, _, _, rfl, ⟨e5, k5⟩, _, _, rfl, ⟨e6, k6⟩, _, _, rfl, ⟨e7, k7⟩, _, _, rfl, ⟨e8, k8⟩, _, _, rfl, ⟨e9, k9⟩, e9'⟩ := h
  dsimp only at e1 e2 e3 e4 e5 e6 e7 e8 e9 k1 k2 k3 k4 k5 k6 k7 k8 k9
  have e4' : _ = [] := e4'
  have e9' : _ = [] := e9'
  refine ⟨⟨y1, y2, y3, y4, y5, y6, y7, y8, y9⟩, ?_, ⟨k1, k2, k3, k4, k5, k6⟩, k7, k8, k9⟩
  rw [e1, e2, e3, e4, e5, e6, e7, e8, e9, e4', e9']; rfl
end Go.PK
