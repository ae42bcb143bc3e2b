/- Of the proofs of YtifekogdhjabaaaGreatDoor: PkG27 PkMapN PkG28 PkW24 PkD24 PkRec PkR24 PkW25 PkBulk PkOrdT PkZ, put together. -/
import Derived.Test.YtifekogdhjabaaaGreatDoorB2
import Derived.Test.YtifekogdhjabaaaGreatDoorB1
set_option linter.unusedVariables false
set_option linter.unusedSimpArgs false
set_option maxRecDepth 100000

namespace Go.PK
open Go Go.RowKit
def rdT (s : ByteArray) : Ord × Int := if (parR s).2.2 ≠ 0 then (zeroO, (parR s).2.2) else rdO (parR s).1
def rdTI (s : ByteArray) : List Ord × Int := if (parR s).2.2 ≠ 0 then ([], (parR s).2.2) else rdI (parR s).1
theorem rdO_wr {l : List Seg} (h : (rdO l).2 = 0) : wrO (rdO l).1 := by
  unfold rdO at h ⊢
  split
  · rename_i h1; exact h1.1
  · rename_i h1; rw [if_neg h1] at h; cases h
theorem rdT_wr {s : ByteArray} (h : (rdT s).2 = 0) : wrO (rdT s).1 := by
  unfold rdT at h ⊢
  by_cases h1 : (parR s).2.2 ≠ 0
  · rw [if_pos h1] at h; exact absurd h h1
  · rw [if_neg h1] at h ⊢; exact rdO_wr h
theorem rdI_wr {l : List Seg} : ∀ o ∈ (rdI l).1, wrO (pf o) := by
  unfold rdI
  by_cases h1 : payP (linesE l) ∧ (invR (linesE l)).length = l.length
  · rw [if_pos h1]
    split
    · exact h1.1.2.2
    · split
      · exact fun o ho => by cases ho
      · exact fun o ho => by cases ho
  · rw [if_neg h1]
    exact fun o ho => by cases ho
theorem rdTI_wr {s : ByteArray} : ∀ o ∈ (rdTI s).1, wrO (pf o) := by
  unfold rdTI
  split
  · exact fun o ho => by cases ho
  · exact rdI_wr
theorem rdTI_ln {s : ByteArray} : ∀ ln ∈ (rdTI s).1, ((1 ≤ ln.copies ∧ ln.copies ≤ 9999) ∧ 0 ≤ ln.price) ∧ ln.price ≤ 999999999 ∧ 1 ≤ ln.id ∧ ln.id ≤ 999999999 := fun ln h => by
  obtain ⟨⟨a1, a2⟩, _, _, _, ⟨e1, e2⟩, f1, f2⟩ := rdTI_wr ln h
  have a1 : 1 ≤ ln.id := a1
  have a2 : ln.id ≤ 999999999 := a2
  have e1 : 0 ≤ ln.price := e1
  have e2 : ln.price ≤ 999999999 := e2
  have f1 : 1 ≤ ln.copies := f1
  have f2 : ln.copies ≤ 9999 := f2
  exact ⟨⟨⟨f1, f2⟩, e1⟩, e2, a1, a2⟩
theorem rdI_len {l : List Seg} : (rdI l).1.length ≤ 999 := by
  unfold rdI
  by_cases h1 : payP (linesE l) ∧ (invR (linesE l)).length = l.length
  · rw [if_pos h1]
    split
    · exact h1.1.2.1
    · split <;> exact Nat.zero_le _
  · rw [if_neg h1]; exact Nat.zero_le _
theorem rdTI_len {s : ByteArray} : (rdTI s).1.length ≤ 999 := by
  unfold rdTI
  split
  · exact Nat.zero_le _
  · exact rdI_len
def fFr (fr : Int → Option Int) : Value → Option Value
  | .int .i64 id => (fr id).map (Value.int .i64)
  | _ => none
theorem fFr_upd {fr : Int → Option Int} {id v : Int} : fupd (fFr fr) (.int .i64 id) (.int .i64 v) = fFr (frS fr id v) := by
  funext u
  by_cases hu : u = .int .i64 id
  · subst hu
    rw [fupd_self]
    show _ = (frS fr id v id).map _
    unfold frS
    rw [if_pos rfl]; rfl
  · rw [fupd_ne hu]
    cases u with
    | int k j =>
      cases k with
      | i64 =>
        show (fr j).map _ = (frS fr id v j).map _
        unfold frS
        rw [if_neg (fun e => hu (by rw [e]))]
      | _ => rfl
    | _ => rfl
theorem fFr_none : fFr (fun _ => none) = fun _ => none := by
  funext u
  cases u with
  | int k j => cases k <;> rfl
  | _ => rfl
theorem frS_frS {fr : Int → Option Int} {id a b : Int} : frS (frS fr id a) id b = frS fr id b := by
  funext j
  unfold frS
  split <;> rfl
def ozO (o : Option EN) : EN := o.getD (zeroO, 0)
theorem goI_cons {tol : Int} {fs : List FG} {M : List EN} {fr : Int → Option Int} {ln : Ord} {rest : List Ord} {o : Option EN} (ho : lkL M ln.id = o) : goI tol fs M fr (ln :: rest) = if checkP tol ln o ≠ 0 then (checkP tol ln o, M) else match (generalizing := false) o with
    | none => (32, M)
    | some (x, first) => if frG fs fr x.fund + ln.copies * (x.price - ln.price) < 0 then (60, M) else goI tol fs (setL M ({ x with paid := x.paid + ln.copies }, first)) (frS fr x.fund (frG fs fr x.fund + ln.copies * (x.price - ln.price))) rest := by
  subst ho
  conv => lhs; unfold goI
  cases lkL M ln.id with
  | none => rfl
  | some z => rfl
theorem goI_some {tol : Int} {fs : List FG} : ∀ {ls : List Ord} {L : List EN} {fr : Int → Option Int}, (goI tol fs L fr ls).1 = 0 → ∀ ln ∈ ls, (lkL L ln.id).isSome = true
  | [], _, _, _ => fun ln h => by cases h
  | l :: ls, L, fr, h => by
    unfold goI at h
    cases hl : lkL L l.id with
    | none => rw [hl] at h; cases h
    | some z =>
      obtain ⟨x, first⟩ := z
      rw [hl] at h
      dsimp only at h
      by_cases hc : checkP tol l (some (x, first)) ≠ 0
      · rw [if_pos hc] at h; exact absurd h hc
      rw [if_neg hc] at h
      by_cases hv : frG fs fr x.fund + l.copies * (x.price - l.price) < 0
      · rw [if_pos hv] at h; cases h
      rw [if_neg hv] at h
      intro ln hm
      rcases List.mem_cons.1 hm with rfl | hm
      · rw [hl]; rfl
      · have := goI_some h ln hm
        rw [lkL_set] at this
        dsimp only at this
        by_cases hi : ln.id = x.id
        · rw [if_pos hi, Option.isSome_map] at this; exact this
        · rw [if_neg hi] at this; exact this
theorem drop_at {α : Type} {l : List α} {k : Nat} (h : k < l.length) : l.drop k = l[k] :: l.drop (k + 1) := List.drop_eq_getElem_cons h
theorem foldl_snoc {α β : Type} (f : β → α → β) (b : β) {l : List α} {k : Nat} (h : k < l.length) : (l.take (k + 1)).foldl f b = f ((l.take k).foldl f b) l[k] := by
  rw [List.take_succ_eq_append_getElem h, List.foldl_append]; rfl
theorem free_rng {fs : List FG} (h : ∀ f ∈ fs, fundOK f.s) (id : Int) : 0 ≤ freeG fs id ∧ freeG fs id ≤ 1000000000000000 := by
  unfold freeG
  cases hl : lkF fs id with
  | none => exact ⟨Int.le_refl _, by decide⟩
  | some f =>
    obtain ⟨g, hg, _, rfl⟩ := lkF_mem hl
    have := h g hg
    unfold fundOK at this
    unfold FSt.free
    dsimp only
    omega
theorem frG_rng {fs : List FG} (h : ∀ f ∈ fs, fundOK f.s) {fr : Int → Option Int} {B : Int} (hB : 0 ≤ B) (hf : ∀ id v, fr id = some v → 0 ≤ v ∧ v ≤ 1000000000000000 + B) (id : Int) : 0 ≤ frG fs fr id ∧ frG fs fr id ≤ 1000000000000000 + B := by
  unfold frG
  cases hl : fr id with
  | none => have := free_rng h id; exact ⟨this.1, by dsimp only; omega⟩
  | some v => exact hf id v hl
end Go.PK

namespace Go.PK
open Go Go.RowKit Go.Maps
section
variable {P : Program} {n : Nat} {l : List (Nat × Value)} {own : List (Nat × Obj)} {ro : List Snap} {ty t kt e : TypeId} {m x : Operand} {b : Nat} {es : Array MapEntry} {clock : Nat}
end
end Go.PK

namespace Go.PK
open Go Go.RowKit Go.Maps
theorem Mem.front {w : World} {a b c : List (Nat × Obj)} {ro : List Snap} (h : Mem w (a ++ (b ++ c)) ro) : Mem w (b ++ (a ++ c)) ro := h.perm (List.perm_append_comm_assoc _ _ _)
def fgC (g : FG) : List Value := [.int .i64 g.id, .int .i64 g.par, .int .i64 g.s.al, .int .i64 g.s.sp, .int .i64 g.s.en]
theorem fMM_one {g : FG} {p : Nat} {b : Value} : fMM [⟨g, p, b⟩] = fupd (fun _ => none) (.int .i64 g.id) (.pointer (some ⟨p, 0, none⟩)) := by
  funext v
  by_cases hv : v = .int .i64 g.id
  · subst hv
    rw [fupd_self]
    show (lkM _ _).map _ = _
    rw [lkM_cons, if_pos rfl]; rfl
  · rw [fupd_ne hv]
    cases v with
    | int k j =>
      cases k with
      | i64 =>
        show (lkM _ _).map _ = _
        rw [lkM_cons, if_neg (fun e => hv (by rw [← e]))]; rfl
      | _ => rfl
    | _ => rfl
theorem rdT_rng (s : ByteArray) : (0 ≤ (rdT s).1.price ∧ (rdT s).1.price ≤ 999999999) ∧ (0 ≤ (rdT s).1.copies ∧ (rdT s).1.copies ≤ 9999) := by
  by_cases h : (rdT s).2 = 0
  · have := rdT_wr h
    unfold wrO at this
    omega
  · have h0 : (rdT s).1 = zeroO := by
      unfold rdT at h ⊢
      by_cases h1 : (parR s).2.2 ≠ 0
      · rw [if_pos h1]
      · rw [if_neg h1] at h ⊢
        unfold rdO at h ⊢
        split
        · rename_i h2; rw [if_pos h2] at h; exact absurd rfl h
        · rfl
    rw [h0]; decide
def fxN (g : FG) : List Value := [.int .i64 g.id, .int .i64 g.par, .int .i64 g.s.al, .int .i64 g.s.sp, .int .i64 g.s.en, .slice none 0 0]
def srtF (fs : List FG) : Prop := (fs.map (·.id)).Pairwise (· < ·)
theorem ids_of {ms : List FM} {fs : List FG} (h : fsM ms = fs) (hs : srtF fs) : (ms.map (·.g.id)).Pairwise (· < ·) := by
  subst h
  unfold srtF fsM at hs
  rwa [List.map_map] at hs
theorem lkM_of {ms : List FM} {fs : List FG} {id : Int} {f : FSt} (h : fsM ms = fs) (hl : lkF fs id = some f) : ∃ y, lkM ms id = some y ∧ y.g.s = f ∧ y ∈ ms := by
  subst h
  rw [lkM_F] at hl
  cases hm : lkM ms id with
  | none => rw [hm] at hl; cases hl
  | some y =>
    rw [hm] at hl
    injection hl with hl
    obtain ⟨a, b, h1, _⟩ := lkM_split hm
    exact ⟨y, rfl, hl, by rw [h1]; simp⟩
end Go.PK

namespace Go.PK
open Go Go.RowKit
def ordsC (l : List Ord) : List Value := l.flatMap Ord.cells
theorem ordsC_len (l : List Ord) : (ordsC l).length = l.length * 9 := by
  induction l with
  | nil => rfl
  | cons x xs ih => show (x.cells ++ ordsC xs).length = _; rw [List.length_append, ih, List.length_cons]; show 9 + _ = _; omega
theorem ordsC_one (l : List Ord) : (ordsC l).all (fun u => u.oneCell') = true := by
  rw [List.all_eq_true]; intro u hu
  obtain ⟨x, _, hx⟩ := List.mem_flatMap.1 hu
  simp only [Ord.cells, List.mem_cons, List.mem_nil_iff, or_false] at hx
  rcases hx with rfl | rfl | rfl | rfl | rfl | rfl | rfl | rfl | rfl <;> rfl
theorem ordsC_app (a b : List Ord) : ordsC (a ++ b) = ordsC a ++ ordsC b := by unfold ordsC; rw [List.flatMap_append]
theorem ordsC_split {l : List Ord} {k : Nat} (hk : k < l.length) : ordsC l = ordsC (l.take k) ++ (l[k].cells ++ ordsC (l.drop (k + 1))) := by
  have h : l = l.take k ++ l[k] :: l.drop (k + 1) := by rw [← List.drop_eq_getElem_cons hk, List.take_append_drop]
  conv => lhs; rw [h]
  rw [ordsC_app]; rfl
theorem ordsC_set {l : List Ord} {k : Nat} (hk : k < l.length) (o : Ord) : ordsC (l.set k o) = ordsC (l.take k) ++ (o.cells ++ ordsC (l.drop (k + 1))) := by
  have hk' : k < (l.set k o).length := by rw [List.length_set]; exact hk
  rw [ordsC_split hk', List.getElem_set_self, List.take_set_of_le (Nat.le_refl k), List.drop_set_of_lt (Nat.lt_succ_self k)]
theorem ords_rd {D : Nat → Prop} {w : World} {own : List (Nat × Obj)} {ro : List Snap} {e : TypeId} {R : RowS} {es : List Ord} {n : Nat} (hr : rowOK 9 R n (ordsC es)) (hn : n = es.length) (hi : ∀ x ∈ es, x.okA)
    (hm : Mem w own ro) (hin : ∀ p ∈ rowO e R, p ∈ own) (hD : ∀ p ∈ rowO e R, D p.1) : sliceRd tyOrd D w (rowV R n) es := by
  subst hn
  have h : RowT tyOrd (fun _ => False) w R es := ⟨es.map Ord.cells, by simp, by rw [← List.flatMap_def]; exact hr, fun j h1 h2 => by rw [List.getElem_map]; exact ⟨rfl, hi _ (List.getElem_mem h2)⟩⟩
  exact h.rd hm hin (fun _ h => h.elim) hD rfl
theorem ords_put {b c n : Nat} {cs : List Value} {l : List Ord} (h : rowOK 9 (some (b, cs, c)) n (ordsC l)) (hn : n = l.length) {k : Nat} (hk : k < l.length) (o : Ord) {j m : Nat} {vs : List Value} (hv : vs.length = m) (hj : j + m ≤ 9)
    (he : o.cells = l[k].cells.take j ++ vs ++ l[k].cells.drop (j + m)) : rowOK 9 (some (b, cs.take (k * 9 + j) ++ vs ++ cs.drop (k * 9 + j + m), c)) n (ordsC (l.set k o)) := by
  subst hn
  obtain ⟨h1, h2, h3, h4, h5⟩ := h
  have hP : (ordsC (l.take k)).length = k * 9 := by rw [ordsC_len, List.length_take, Nat.min_eq_left (Nat.le_of_lt hk)]
  have hX : l[k].cells.length = 9 := rfl
  have hcs : cs = ordsC (l.take k) ++ (l[k].cells ++ (ordsC (l.drop (k + 1)) ++ cs.drop (l.length * 9))) := by
    conv => lhs; rw [← List.take_append_drop (l.length * 9) cs]
    rw [show cs.take (l.length * 9) = ordsC l from h5, ordsC_split hk, List.append_assoc, List.append_assoc]
  have e1 : cs.take (k * 9 + j) = ordsC (l.take k) ++ l[k].cells.take j := by
    rw [hcs, List.take_append, hP, List.take_of_length_le (by omega), show k * 9 + j - k * 9 = j by omega, List.take_append_of_le_length (by omega)]
  have e2 : cs.drop (k * 9 + j + m) = l[k].cells.drop (j + m) ++ (ordsC (l.drop (k + 1)) ++ cs.drop (l.length * 9)) := by
    conv => lhs; rw [hcs]
    rw [List.drop_append, hP, List.drop_of_length_le (by omega), show k * 9 + j + m - k * 9 = j + m by omega, List.nil_append, List.drop_append_of_le_length (by omega)]
  have e3 : cs.take (k * 9 + j) ++ vs ++ cs.drop (k * 9 + j + m) = ordsC (l.set k o) ++ cs.drop (l.length * 9) := by
    rw [e1, e2, ordsC_set hk, he]; simp only [List.append_assoc]
  have hlen : (ordsC (l.set k o)).length = l.length * 9 := by rw [ordsC_len, List.length_set]
  refine ⟨hlen, h2, h3, ?_, ?_⟩
  · rw [e3, List.length_append, hlen, List.length_drop, h4]
    have h6 : l.length * 9 ≤ c * 9 := Nat.mul_le_mul_right 9 h2
    show l.length * 9 + (c * 9 - l.length * 9) = c * 9
    omega
  · rw [e3, List.take_append_of_le_length (by omega), List.take_of_length_le (by omega)]
def oW (i : Int) : Ord := ⟨i, 2, 0, i, 9, 10 * i, 9, 0, 5⟩
def reqW (i : Int) : Ord := ⟨i, 2, 0, i, 9, 10 * i, 0, 0, 0⟩
def LW (p : Int → Int) : List EN := [({ oW 1 with paid := p 1 }, 10), ({ oW 2 with paid := p 2 }, 20), ({ oW 3 with paid := p 3 }, 30)]
def fsW (sp en : Int) : List FG := [⟨2, 0, ⟨100000, sp, en⟩⟩]
def sW (n : Nat) : SG := ⟨fsW 0 (45 * n * (n + 1)), 0, (LW fun _ => 0).take n⟩
def s3W : SG := ⟨fsW 0 540, 0, LW fun _ => 0⟩
theorem sW_3 : sW 3 = s3W := by decide
theorem sW_step : ∀ n : Fin 3, (placeG (sW n) (reqW ((n : Nat) + 1 : Nat))).1 = 0 ∧ receiveG (placeG (sW n) (reqW ((n : Nat) + 1 : Nat))).2 ((n : Nat) + 1 : Nat) 5 = (0, sW (n + 1)) := by decide +kernel
theorem reqW_A {i : Int} (h : 0 ≤ i ∧ i ≤ 10) : (reqW i).okA := by
  refine ⟨⟨?_, ?_, ?_, ?_, ?_, ?_⟩, ?_, ?_, ?_⟩ <;> (unfold reqW in64; dsimp only; omega)
def lnW (i : Nat) (c : Int) : Ord := ⟨1 + (i % 3 : Nat), 0, 0, 1 + (i % 3 : Nat), 1 + c % 4, 10 + 10 * (i % 3 : Nat), 0, 0, 0⟩
def linesW (cs : List Int) (m : Nat) : List Ord := (List.range m).map fun i => lnW i (cs.getD i 0)
theorem linesW_len (cs : List Int) (m : Nat) : (linesW cs m).length = m := by unfold linesW; rw [List.length_map, List.length_range]
theorem linesW_snoc (cs : List Int) (m : Nat) : linesW cs (m + 1) = linesW cs m ++ [lnW m (cs.getD m 0)] := by unfold linesW; rw [List.range_succ, List.map_append]; rfl
def lineK (o : Ord) : Prop := (o.id = 1 ∨ o.id = 2 ∨ o.id = 3) ∧ o.src = 0 ∧ o.num = o.id ∧ o.price = 10 * o.id ∧ (1 ≤ o.copies ∧ o.copies ≤ 4) ∧ o.fund = 0 ∧ o.prom = 0 ∧ o.paid = 0 ∧ o.st = 0
theorem lnW_K (i : Nat) (c : Int) : lineK (lnW i c) := by
  unfold lineK lnW
  dsimp only
  omega
theorem linesW_K (cs : List Int) (m : Nat) : ∀ o ∈ linesW cs m, lineK o := fun o ho => by
  obtain ⟨i, _, rfl⟩ := List.mem_map.1 ho
  exact lnW_K i _
def sumW (ls : List Ord) (j : Int) : Int := (ls.map fun o => if o.id = j then o.copies else 0).sum
theorem sumW_nil (j : Int) : sumW [] j = 0 := rfl
theorem sumW_cons (o : Ord) (ls : List Ord) (j : Int) : sumW (o :: ls) j = (if o.id = j then o.copies else 0) + sumW ls j := by unfold sumW; rw [List.map_cons, List.sum_cons]
theorem sumW_snoc (ls : List Ord) (o : Ord) (j : Int) : sumW (ls ++ [o]) j = sumW ls j + (if o.id = j then o.copies else 0) := by
  unfold sumW; rw [List.map_append, List.sum_append]; simp
theorem sumW_nn {ls : List Ord} (h : ∀ o ∈ ls, lineK o) (j : Int) : 0 ≤ sumW ls j ∧ sumW ls j ≤ 4 * (ls.length : Int) := by
  induction ls with
  | nil => exact ⟨Int.le_refl _, Int.le_refl _⟩
  | cons o ls ih =>
    have h1 := ih fun x hx => h x (.tail _ hx)
    obtain ⟨_, _, _, _, ⟨c1, c2⟩, _⟩ := h o (.head _)
    rw [sumW_cons, List.length_cons]
    split <;> (push_cast; omega)
theorem total_sum {ls : List Ord} (h : ∀ o ∈ ls, lineK o) : totalP ls = 10 * sumW ls 1 + 20 * sumW ls 2 + 30 * sumW ls 3 := by
  induction ls with
  | nil => rfl
  | cons o ls ih =>
    have h1 := ih fun x hx => h x (.tail _ hx)
    obtain ⟨hid, _, _, hp, _⟩ := h o (.head _)
    have : totalP (o :: ls) = o.copies * o.price + totalP ls := by unfold totalP; rw [List.map_cons, List.sum_cons]
    rw [this, h1, sumW_cons, sumW_cons, sumW_cons, hp]
    rcases hid with hid | hid | hid <;> (rw [hid]; simp only [show ((1 : Int) = 2) = False by decide, show ((1 : Int) = 3) = False by decide, show ((2 : Int) = 1) = False by decide, show ((2 : Int) = 3) = False by decide, show ((3 : Int) = 1) = False by decide, show ((3 : Int) = 2) = False by decide, if_true, if_false]; omega)
def pW (p : Int → Int) (j n : Int) : Int → Int := fun i => if i = j then p i + n else p i
theorem lkW {p : Int → Int} {j : Int} (h : j = 1 ∨ j = 2 ∨ j = 3) : lkL (LW p) j = some ({ oW j with paid := p j }, 10 * j) := by
  rcases h with rfl | rfl | rfl <;> rfl
theorem setW {p : Int → Int} {j n : Int} (h : j = 1 ∨ j = 2 ∨ j = 3) : setL (LW p) ({ oW j with paid := p j + n }, 10 * j) = LW (pW p j n) := by
  rcases h with rfl | rfl | rfl <;> rfl
theorem goW {fs : List FG} (hfs : freeG fs 2 = 99460) : ∀ (ls : List Ord) (p : Int → Int) (fr : Int → Option Int), (∀ o ∈ ls, lineK o) → (fr 2 = none ∨ fr 2 = some 99460) → (∀ j, 0 ≤ p j ∧ p j ≤ 5) →
    (p 1 + sumW ls 1 ≤ 5 ∧ p 2 + sumW ls 2 ≤ 5 ∧ p 3 + sumW ls 3 ≤ 5 → ∃ q, goI 0 fs (LW p) fr ls = (0, LW q) ∧ ∀ j, j = 1 ∨ j = 2 ∨ j = 3 → q j = p j + sumW ls j) ∧
    (¬(p 1 + sumW ls 1 ≤ 5 ∧ p 2 + sumW ls 2 ≤ 5 ∧ p 3 + sumW ls 3 ≤ 5) → (goI 0 fs (LW p) fr ls).1 ≠ 0)
  | [], p, fr, _, _, hp => ⟨fun _ => ⟨p, rfl, fun j _ => by rw [sumW_nil, Int.add_zero]⟩, fun h => absurd ⟨by have := hp 1; rw [sumW_nil]; omega, by have := hp 2; rw [sumW_nil]; omega, by have := hp 3; rw [sumW_nil]; omega⟩ h⟩
  | o :: ls, p, fr, hl, hfr, hp => by
    have hk := hl o (.head _)
    have hls : ∀ x ∈ ls, lineK x := fun x hx => hl x (.tail _ hx)
    obtain ⟨hid, hsrc, hnum, hpr, ⟨c1, c2⟩, _⟩ := hk
    have n1 := sumW_nn hls 1
    have n2 := sumW_nn hls 2
    have n3 := sumW_nn hls 3
    have hck : checkP 0 o (some ({ oW o.id with paid := p o.id }, 10 * o.id)) = if o.copies > 5 - p o.id then 50 else 0 := by
      unfold checkP oW
      dsimp only
      rw [if_neg (by decide), if_neg (by rw [hsrc, hnum]; exact fun q => q ⟨rfl, rfl⟩)]
      by_cases h : o.copies > 5 - p o.id
      · rw [if_pos h, if_pos h]
      · rw [if_neg h, if_neg h, if_neg (fun q => q (by unfold nearP; rw [hpr]; omega))]
    rw [goI_cons (lkW hid), hck]
    by_cases h : o.copies > 5 - p o.id
    · rw [if_pos h, if_pos (show (50 : Int) ≠ 0 by decide)]
      refine ⟨fun hs => ?_, fun _ => by show (50 : Int) ≠ 0; decide⟩
      exfalso
      rw [sumW_cons, sumW_cons, sumW_cons] at hs
      rcases hid with hid | hid | hid <;> (rw [hid] at hs h; simp only [show ((1 : Int) = 2) = False by decide, show ((1 : Int) = 3) = False by decide, show ((2 : Int) = 1) = False by decide, show ((2 : Int) = 3) = False by decide, show ((3 : Int) = 1) = False by decide, show ((3 : Int) = 2) = False by decide, if_true, if_false] at hs; omega)
    · rw [if_neg h, if_neg (fun q => q rfl)]
      dsimp only
      have hV : frG fs fr (oW o.id).fund + o.copies * ((oW o.id).price - o.price) = 99460 := by
        show frG fs fr 2 + o.copies * (10 * o.id - o.price) = _
        rw [hpr, Int.sub_self, Int.mul_zero]
        unfold frG
        rcases hfr with e | e
        · rw [e]; dsimp only; rw [hfs]; rfl
        · rw [e]; rfl
      rw [show ({ oW o.id with paid := p o.id } : Ord).fund = (oW o.id).fund from rfl, show ({ oW o.id with paid := p o.id } : Ord).price = (oW o.id).price from rfl, hV, if_neg (by decide)]
      rw [show setL (LW p) ({ oW o.id with paid := p o.id + o.copies }, 10 * o.id) = LW (pW p o.id o.copies) from setW hid]
      obtain ⟨i1, i2⟩ := goW hfs ls (pW p o.id o.copies) (frS fr (oW o.id).fund 99460) hls (.inr (by show frS fr 2 99460 2 = _; unfold frS; rw [if_pos rfl])) (fun j => by
        unfold pW
        have := hp j
        split
        · rename_i e; subst e; omega
        · exact this)
      have e : ∀ j, pW p o.id o.copies j + sumW ls j = p j + sumW (o :: ls) j := fun j => by
        rw [sumW_cons]
        unfold pW
        by_cases hj : o.id = j
        · rw [if_pos hj, if_pos hj.symm]; omega
        · rw [if_neg hj, if_neg (fun q => hj q.symm)]; omega
      rw [e 1, e 2, e 3] at i1 i2
      refine ⟨fun hs => ?_, i2⟩
      obtain ⟨q, q1, q2⟩ := i1 hs
      exact ⟨q, q1, fun j hj => (q2 j hj).trans (e j)⟩
theorem goI_match {tol : Int} {fs : List FG} : ∀ {ls : List Ord} {L : List EN} {fr : Int → Option Int}, (goI tol fs L fr ls).1 = 0 → ∀ ln ∈ ls, ∃ x first, lkL L ln.id = some (x, first) ∧ (x.src = ln.src ∧ x.num = ln.num) ∧ nearP tol ln.price x.price
  | [], _, _, _ => fun ln h => by cases h
  | l :: ls, L, fr, h => by
    cases hl : lkL L l.id with
    | none => rw [goI_cons hl] at h; cases h
    | some z =>
      obtain ⟨x, first⟩ := z
      rw [goI_cons hl] at h
      by_cases hc : checkP tol l (some (x, first)) ≠ 0
      · rw [if_pos hc] at h; exact absurd h hc
      rw [if_neg hc] at h
      dsimp only at h
      by_cases hv : frG fs fr x.fund + l.copies * (x.price - l.price) < 0
      · rw [if_pos hv] at h; cases h
      rw [if_neg hv] at h
      intro ln hm
      rcases List.mem_cons.1 hm with rfl | hm
      · refine ⟨x, first, hl, ?_⟩
        have hc := Decidable.of_not_not hc
        unfold checkP at hc
        dsimp only at hc
        split at hc
        · cases hc
        · split at hc
          · cases hc
          · rename_i h2
            split at hc
            · cases hc
            · split at hc
              · cases hc
              · rename_i h4
                exact ⟨Decidable.of_not_not h2, Decidable.of_not_not h4⟩
      · obtain ⟨y, fi, h1, h2, h3⟩ := goI_match h ln hm
        rw [lkL_set] at h1
        dsimp only at h1
        by_cases hi : ln.id = x.id
        · rw [if_pos hi] at h1
          have hx : x.id = l.id := (lkL_mem hl).2
          rw [hi, hx, hl] at h1
          injection h1 with h1
          injection h1 with h1 h5
          subst h1
          exact ⟨x, first, by rw [hi, hx]; exact hl, h2, h3⟩
        · rw [if_neg hi] at h1; exact ⟨y, fi, h1, h2, h3⟩
theorem payW : ∀ (ls : List Ord) (sp en : Int), (∀ o ∈ ls, lineK o) → 0 ≤ sp ∧ sp + en ≤ 540 → totalP ls ≤ en → ls.foldl (pay1 (LW fun _ => 0)) (fsW sp en) = fsW (sp + totalP ls) (en - totalP ls)
  | [], sp, en, _, _, _ => by show fsW sp en = fsW (sp + 0) (en - 0); rw [Int.add_zero, Int.sub_zero]
  | o :: ls, sp, en, hl, hs, ht => by
    obtain ⟨hid, _, _, hpr, ⟨c1, c2⟩, _⟩ := hl o (.head _)
    have hls : ∀ x ∈ ls, lineK x := fun x hx => hl x (.tail _ hx)
    have e1 : totalP (o :: ls) = o.copies * o.price + totalP ls := by unfold totalP; rw [List.map_cons, List.sum_cons]
    have n1 := sumW_nn hls 1
    have n2 := sumW_nn hls 2
    have n3 := sumW_nn hls 3
    have t1 := total_sum hls
    have c0 : 0 ≤ o.copies * o.price := Int.mul_nonneg (by omega) (by rw [hpr]; omega)
    rw [e1] at ht
    rw [List.foldl_cons]
    have e2 : pay1 (LW fun _ => 0) (fsW sp en) o = fsW (sp + o.copies * o.price) (en - o.copies * o.price) := by
      unfold pay1
      rw [lkW hid]
      dsimp only
      rw [show ({ oW o.id with paid := 0 } : Ord).fund = 2 from rfl, show ({ oW o.id with paid := 0 } : Ord).price = 10 * o.id from rfl, ← hpr]
      generalize o.copies * o.price = m at *
      have r1 : postG relP (fsW sp en) 2 m = (0, fsW sp (en - m)) := by
        unfold postG
        rw [show lkF (fsW sp en) 2 = some ⟨100000, sp, en⟩ from rfl]
        dsimp only
        have : relP ⟨100000, sp, en⟩ m = (0, ⟨100000, sp, en - m⟩) := by unfold relP; rw [if_neg (by omega), if_neg (by dsimp only; omega)]
        rw [this]; rfl
      have r2 : postG spdP (fsW sp (en - m)) 2 m = (0, fsW (sp + m) (en - m)) := by
        unfold postG
        rw [show lkF (fsW sp (en - m)) 2 = some ⟨100000, sp, en - m⟩ from rfl]
        dsimp only
        have : spdP ⟨100000, sp, en - m⟩ m = (0, ⟨100000, sp + m, en - m⟩) := by unfold spdP FSt.free; rw [if_neg (by omega), if_neg (by dsimp only; omega)]
        rw [this]; rfl
      rw [r1]
      dsimp only
      rw [r2]
    rw [e2, payW ls _ _ hls (by omega) (by omega), e1]
    unfold fsW
    congr 3 <;> omega
def bigN (l : List Seg) : Prop := ∀ x ∈ l, ∀ y ∈ x.els, ∀ s ∈ y, s.size ≤ 2000000000
theorem linesX_mem : ∀ {ls : List Ord} {j : Nat} {x : Seg}, x ∈ linesX j ls → ∃ o ∈ ls, ∃ k, k < j + ls.length ∧ x ∈ inv4 k o
  | [], _, _, h => by cases h
  | o :: t, j, x, h => by
    rcases List.mem_append.1 (show x ∈ inv4 j o ++ linesX (j + 1) t from h) with h | h
    · exact ⟨o, .head _, j, by rw [List.length_cons]; omega, h⟩
    · obtain ⟨p, h1, k, h2, h3⟩ := linesX_mem h
      exact ⟨p, .tail _ h1, k, by rw [List.length_cons]; omega, h3⟩
theorem inv_fine {ls : List Ord} (hp : payP ls) (hn : ls.length ≤ 10) : ∀ x ∈ invR ls, fineS x := by
  have hfew := (inv_few ls).2
  have ht0 := total_le (ls := ls) hp.2.2
  have key : ∀ x ∈ invR ls, (∀ y ∈ x.els, ∀ s ∈ y, s.size ≤ 100) ∧ rightSg x = true ∧ x.tag ≠ unaT := by
    intro x hx
    unfold invR at hx
    rw [if_pos hp] at hx
    unfold withX at hx
    rcases List.mem_append.1 hx with hx | hx
    · rcases List.mem_append.1 hx with hx | hx
      · have hh : ∀ x ∈ headX, (∀ y ∈ x.els, ∀ s ∈ y, s.size ≤ 100) ∧ rightSg x = true ∧ x.tag ≠ unaT := by
          unfold headX
          simp only [List.forall_mem_cons, List.not_mem_nil, false_imp_iff, implies_true, and_true]
          repeat' apply And.intro
          all_goals first | decide | omega | rfl
        exact hh x hx
      · obtain ⟨o, ho, k, hk, hx⟩ := linesX_mem hx
        obtain ⟨⟨a1, a2⟩, _, ⟨c1, c2⟩, ⟨d1, d2⟩, ⟨e1, e2⟩, ⟨f1, f2⟩⟩ := hp.2.2 o ho
        have a1 : 1 ≤ o.id := a1; have a2 : o.id ≤ 999999999 := a2; have c1 : 0 ≤ o.src := c1; have c2 : o.src ≤ 999999999 := c2; have d1 : 0 ≤ o.num := d1; have d2 : o.num ≤ 999999999 := d2
        have e1 : 0 ≤ o.price := e1; have e2 : o.price ≤ 999999999 := e2; have f1 : 1 ≤ o.copies := f1; have f2 : o.copies ≤ 9999 := f2
        have k1 := itoa9 (show 0 ≤ o.id by omega) a2
        have k3 := itoa9 (show 0 ≤ o.copies by omega) (show o.copies ≤ 999999999 by omega)
        have k4 := itoa9 e1 e2
        have k5 := recT9 c1 c2 d1 d2
        have k6 : (itoaS ((k + 1 : Nat) : Int)).size ≤ 9 := itoa9 (by omega) (by omega)
        have hh : ∀ x ∈ inv4 k o, (∀ y ∈ x.els, ∀ s ∈ y, s.size ≤ 100) ∧ rightSg x = true ∧ x.tag ≠ unaT := by
          unfold inv4
          simp only [List.forall_mem_cons, List.not_mem_nil, false_imp_iff, implies_true, and_true]
          repeat' apply And.intro
          all_goals first | decide | omega | rfl
        exact hh x hx
    · have k7 := itoa_sz (n := totalP ls) ht0.1 15
      have k8 : (itoaS ((4 * ls.length + 5 : Nat) : Int)).size ≤ 9 := itoa9 (by omega) (by omega)
      have k9 : (itoaS (totalP ls)).size ≤ 100 := by
        have h10 : (10 : Int) ^ (15 + 1) = 10000000000000000 := by decide
        have : totalP ls < 10 ^ (15 + 1) := by rw [h10]; have := ht0.2; omega
        have := k7.2 this
        omega
      have hh : ∀ x ∈ tailX ls.length (itoaS (totalP ls)), (∀ y ∈ x.els, ∀ s ∈ y, s.size ≤ 100) ∧ rightSg x = true ∧ x.tag ≠ unaT := by
        unfold tailX
        simp only [List.forall_mem_cons, List.not_mem_nil, false_imp_iff, implies_true, and_true]
        repeat' apply And.intro
        all_goals first | decide | omega | rfl
      exact hh x hx
  exact fun x hx => ⟨(key x hx).2.1, (key x hx).2.2, hfew x hx, (key x hx).1⟩
def txI (ls : List Ord) : ByteArray := ⟨(wrT (invR ls)).toArray⟩
theorem inv_text {ls : List Ord} (hn : ls.length ≤ 10) (h : ∀ o ∈ ls, wrO (pf o)) : wrR (invR ls) = (txI ls, 0) ∧ (txI ls).size ≤ 200000000 ∧ bigN (parR (txI ls)).1 ∧ rdTI (txI ls) = if ls = [] then ([], 11) else (ls.map normI, 0) := by
  have hf : ∀ x ∈ invR ls, fineS x := by
    by_cases hp : payP ls
    · exact inv_fine hp hn
    · unfold invR; rw [if_neg hp]; exact fun x hx => by cases hx
  have hl : (invR ls).length ≤ 60 := by
    rw [invR_len]; split <;> omega
  obtain ⟨h1, h2, h3⟩ := fine_text hl hf
  refine ⟨h1, h2, ?_, ?_⟩
  · show bigN (parR ⟨_⟩).1
    rw [h3]; exact invR_big _
  · have h3 : parR (txI ls) = (invR ls, 0, 0) := h3
    unfold rdTI
    rw [h3, if_neg (fun q => q rfl), rdI_inv]
    cases ls with
    | nil => rw [if_neg not_pay_nil, if_pos rfl]
    | cons o t => rw [if_pos ⟨by rw [List.length_cons]; omega, by omega, h⟩, if_neg (by simp)]
end Go.PK

namespace Go.PK
open Go Go.RowKit
def smE (e : EN) : Prop := (1 ≤ e.1.id ∧ e.1.id ≤ 6) ∧ (1 ≤ e.1.fund ∧ e.1.fund ≤ 4) ∧ e.1.src = 1 ∧ (0 ≤ e.1.num ∧ e.1.num ≤ 2) ∧ (1 ≤ e.1.copies ∧ e.1.copies ≤ 5) ∧ (0 ≤ e.2 ∧ e.2 ≤ 1200) ∧ (0 ≤ e.1.price ∧ e.1.price ≤ 1201200)
def keyF (x : FG) : Int × Int × Int := (x.id, x.par, x.s.al)
def keys3 (m : Int) : List (Int × Int × Int) := [(1, 0, 20000), (2, 1, 9000), (3, 1, m)]
structure DOK (m : Int) (s : SG) : Prop where
  inv : INV s
  sm : ∀ e ∈ s.L, smE e
  fs : s.fs.map keyF = keys3 m
theorem setF_key : ∀ {fs : List FG} {id : Int} {g : FSt}, (∀ f, lkF fs id = some f → g.al = f.al) → (setF fs id g).map keyF = fs.map keyF
  | [], _, _, _ => rfl
  | x :: l, id, g, h => by
    unfold setF
    by_cases hx : x.id = id
    · rw [if_pos hx]
      have := h x.s (by rw [lkF_cons, if_pos hx])
      rw [List.map_cons, List.map_cons]
      unfold keyF
      dsimp only
      rw [this]
    · rw [if_neg hx, List.map_cons, List.map_cons, setF_key fun f hf => h f (by rw [lkF_cons, if_neg hx]; exact hf)]
theorem post_key {R : FSt → Int → Int × FSt} (hR : ∀ f n, (R f n).2.al = f.al) (fs : List FG) (id n : Int) : (postG R fs id n).2.map keyF = fs.map keyF := by
  unfold postG
  cases hl : lkF fs id with
  | none => rfl
  | some f => exact setF_key fun g hg => by rw [hl] at hg; cases hg; exact hR f n
theorem enc_al (f : FSt) (n : Int) : (encP f n).2.al = f.al := by unfold encP; split <;> (try split) <;> rfl
theorem rel_al (f : FSt) (n : Int) : (relP f n).2.al = f.al := by unfold relP; split <;> (try split) <;> rfl
theorem spd_al (f : FSt) (n : Int) : (spdP f n).2.al = f.al := by unfold spdP; split <;> (try split) <;> rfl
theorem move_key (fs : List FG) (id b n : Int) : (moveG fs id b n).2.map keyF = fs.map keyF := by
  unfold moveG
  split
  · exact post_key enc_al _ _ _
  · exact post_key rel_al _ _ _
theorem pay1_key (L : List EN) (fs : List FG) (ln : Ord) : (pay1 L fs ln).map keyF = fs.map keyF := by
  unfold pay1
  split
  · rfl
  · rw [post_key spd_al, post_key rel_al]
theorem pays_key (L : List EN) : ∀ (ls : List Ord) (fs : List FG), (ls.foldl (pay1 L) fs).map keyF = fs.map keyF
  | [], _ => rfl
  | ln :: ls, fs => by rw [List.foldl_cons, pays_key L ls, pay1_key]
theorem DOK.len {m : Int} {s : SG} (h : DOK m s) : s.L.length ≤ 6 := by
  have key : ∀ (k : Nat) (L : List EN) (a : Int), srtL L → (∀ e ∈ L, a < e.1.id ∧ e.1.id ≤ 6) → a + k = 6 → L.length ≤ k := by
    intro k
    induction k with
    | zero =>
      intro L a _ hb ha
      cases L with
      | nil => exact Nat.le_refl _
      | cons e l => have := hb e (.head _); omega
    | succ k ih =>
      intro L a hs hb ha
      cases L with
      | nil => exact Nat.zero_le _
      | cons e l =>
        obtain ⟨h1, h2⟩ := List.pairwise_cons.1 hs
        have h3 := hb e (.head _)
        have h4 := ih l (a + 1) h2 (fun x hx => ⟨by have := h1 x hx; omega, (hb x (.tail _ hx)).2⟩) (by omega)
        rw [List.length_cons]; omega
  exact key 6 s.L 0 h.inv.ok.srt (fun e he => ⟨by have := (h.sm e he).1; omega, (h.sm e he).1.2⟩) (by omega)
theorem sm_set {L : List EN} {y : EN} (h : ∀ e ∈ L, smE e) (hy : smE y) : ∀ e ∈ setL L y, smE e := fun e he => by
  rcases setL_mem he with he | rfl
  · exact h e he
  · exact hy
theorem sm_ins {L : List EN} {y : EN} (h : ∀ e ∈ L, smE e) (hy : smE y) : ∀ e ∈ insL L y, smE e := fun e he => by
  rcases insL_mem.1 he with he | rfl
  · exact h e he
  · exact hy
def wantK (x : Ord) : Prop := (1 ≤ x.id ∧ x.id ≤ 6) ∧ (1 ≤ x.fund ∧ x.fund ≤ 4) ∧ x.src = 1 ∧ (0 ≤ x.num ∧ x.num ≤ 2) ∧ (0 ≤ x.copies ∧ x.copies ≤ 5) ∧ (0 ≤ x.price ∧ x.price ≤ 1200)
theorem DOK.place {m : Int} {s : SG} (h : DOK m s) {x : Ord} (hx : wantK x) : DOK m (placeG s x).2 := by
  refine ⟨h.inv.place x, ?_, ?_⟩ <;> unfold placeG
  · by_cases h1 : writB x = false
    · rw [if_pos h1]; exact h.sm
    rw [if_neg h1]
    by_cases h2 : (lkL s.L x.id).isSome = true
    · rw [if_pos h2]; exact h.sm
    rw [if_neg h2]
    split
    · exact h.sm
    · have hw := (writB_iff x).1 (by simpa using h1)
      refine sm_ins h.sm ?_
      unfold wrO at hw
      unfold wantK at hx
      unfold smE placedO
      dsimp only
      omega
  · by_cases h1 : writB x = false
    · rw [if_pos h1]; exact h.fs
    rw [if_neg h1]
    by_cases h2 : (lkL s.L x.id).isSome = true
    · rw [if_pos h2]; exact h.fs
    rw [if_neg h2]
    split
    · exact h.fs
    · show (postG encP s.fs x.fund (x.copies * x.price)).2.map keyF = _
      rw [post_key enc_al]; exact h.fs
theorem near_le {tol p q : Int} (h : nearP tol p q) (ht : 0 ≤ tol ∧ tol ≤ 1000000) (hq : 0 ≤ q ∧ q ≤ 1200) : p ≤ 1201200 := by
  unfold nearP at h
  have : tol * q ≤ 1000000 * 1200 := Int.mul_le_mul ht.2 hq.2 hq.1 (by decide)
  omega
theorem DOK.answer {m : Int} {s : SG} (h : DOK m s) {a : Ord} {e : Int} (k1 : 0 ≤ a.price ∧ a.price ≤ 999999999) (k2 : 0 ≤ a.copies ∧ a.copies ≤ 9999) : DOK m (answerG s a e).2 := by
  refine ⟨h.inv.answer k1 k2, ?_, ?_⟩ <;> unfold answerG
  · by_cases he : e ≠ 0
    · rw [if_pos he]; exact h.sm
    rw [if_neg he]
    cases hl : lkL s.L a.id with
    | none => exact h.sm
    | some z =>
      obtain ⟨x, first⟩ := z
      dsimp only
      split
      · exact h.sm
      · split
        · exact h.sm
        · split
          · exact h.sm
          · rename_i hn
            split
            · exact h.sm
            · have hx := h.sm _ (lkL_mem hl).1
              refine sm_set h.sm ?_
              unfold smE at hx ⊢
              unfold answO
              dsimp only at hx ⊢
              have := near_le (Decidable.of_not_not hn) h.inv.ok.tol ⟨by omega, by omega⟩
              omega
  · by_cases he : e ≠ 0
    · rw [if_pos he]; exact h.fs
    rw [if_neg he]
    cases hl : lkL s.L a.id with
    | none => exact h.fs
    | some z =>
      obtain ⟨x, first⟩ := z
      dsimp only
      split
      · exact h.fs
      · split
        · exact h.fs
        · split
          · exact h.fs
          · split
            · exact h.fs
            · show (moveG s.fs x.fund (resP x) (resP (answO x a))).2.map keyF = _
              rw [move_key]; exact h.fs
theorem goI_sm (tol : Int) (fs : List FG) : ∀ (ls : List Ord) (L : List EN) (fr : Int → Option Int), (∀ e ∈ L, smE e) → ∀ e ∈ (goI tol fs L fr ls).2, smE e
  | [], L, fr, h => h
  | ln :: ls, L, fr, h => by
    unfold goI
    split
    · exact h
    · rename_i x first hx
      split
      · exact h
      · split
        · exact h
        · exact goI_sm tol fs ls _ _ (sm_set h (show smE (_, first) from h (x, first) (lkL_mem hx).1))
theorem DOK.invoice {m : Int} {s : SG} (h : DOK m s) {ls : List Ord} {e : Int} (hl : ∀ ln ∈ ls, (1 ≤ ln.copies ∧ ln.copies ≤ 9999) ∧ 0 ≤ ln.price) : DOK m (invoiceG s ls e).2 := by
  refine ⟨(invoice_same h.inv hl).2, ?_, ?_⟩ <;> unfold invoiceG
  · split
    · exact h.sm
    · split
      · exact h.sm
      · exact goI_sm _ _ _ _ _ h.sm
  · split
    · exact h.fs
    · split
      · exact h.fs
      · show (ls.foldl (pay1 s.L) s.fs).map keyF = _
        rw [pays_key]; exact h.fs
theorem DOK.new {m tol : Int} (hm : 0 ≤ m ∧ m < 5000) (ht : 0 ≤ tol ∧ tol ≤ 1000000) : DOK m ⟨[⟨1, 0, ⟨20000, 0, 0⟩⟩, ⟨2, 1, ⟨9000, 0, 0⟩⟩, ⟨3, 1, ⟨m, 0, 0⟩⟩], tol, []⟩ := by
  refine ⟨⟨⟨fun f hf => ?_, ht, fun e he => (by cases he), List.Pairwise.nil⟩, fun e he => (by cases he), fun id f hf => ?_, fun e he => (by cases he)⟩, fun e he => (by cases he), rfl⟩
  · unfold fundOK
    rcases List.mem_cons.1 hf with rfl | hf
    · decide
    · rcases List.mem_cons.1 hf with rfl | hf
      · decide
      · rw [List.mem_singleton.1 hf]; dsimp only; omega
  · show f.en = 0
    obtain ⟨x, hx, _, rfl⟩ := lkF_mem hf
    rcases List.mem_cons.1 hx with rfl | hx
    · rfl
    · rcases List.mem_cons.1 hx with rfl | hx
      · rfl
      · rw [List.mem_singleton.1 hx]
end Go.PK

namespace Go.PK
open Go Go.RowKit
structure Rec {α : Type} (f : α → List Value) (v : Nat) : Prop where
  len : ∀ x, (f x).length = v
  one : ∀ x, ∀ u ∈ f x, u.oneCell' = true
def recC {α : Type} (f : α → List Value) (l : List α) : List Value := l.flatMap f
section
variable {α : Type} {f : α → List Value} {v : Nat}
theorem rec_nil : recC f [] = [] := rfl
theorem rec_len (h : Rec f v) : ∀ (l : List α), (recC f l).length = l.length * v
  | [] => by rw [rec_nil]; simp
  | x :: xs => by show (f x ++ recC f xs).length = _; rw [List.length_append, rec_len h xs, h.len, List.length_cons, Nat.succ_mul]; omega
theorem rec_drop (h : Rec f v) : ∀ (l : List α) (i : Nat), (recC f l).drop (i * v) = recC f (l.drop i)
  | _, 0 => by rw [Nat.zero_mul, List.drop_zero, List.drop_zero]
  | [], i + 1 => by simp [recC]
  | x :: xs, i + 1 => by
    show (f x ++ recC f xs).drop _ = recC f (xs.drop i)
    rw [← rec_drop h xs i, Nat.succ_mul, Nat.add_comm, List.drop_append, h.len, List.drop_of_length_le (by rw [h.len]; omega), show v + i * v - v = i * v by omega, List.nil_append]
theorem rec_get (h : Rec f v) {l : List α} {k : Nat} (hk : k < l.length) {j : Nat} {u : Value} (hj : (f l[k])[j]? = some u) : (recC f l)[k * v + j]? = some u := by
  have e : (recC f l)[k * v + j]? = ((recC f l).drop (k * v))[j]? := by rw [List.getElem?_drop]
  rw [e, rec_drop h, List.drop_eq_getElem_cons hk]
  show (f l[k] ++ recC f (l.drop (k + 1)))[j]? = _
  have hlt := (List.getElem?_eq_some_iff.1 hj).1
  rw [List.getElem?_append_left hlt, hj]
theorem mul_lt {k n v j : Nat} (hk : k < n) (hj : j < v) : k * v + j < n * v := by
  have := Nat.mul_le_mul_right v (show k + 1 ≤ n from hk)
  rw [Nat.succ_mul] at this
  omega
theorem rec_at (h : Rec f v) {b c n : Nat} {cs : List Value} {l : List α} (hr : rowOK v (some (b, cs, c)) n (recC f l)) {k : Nat} (hk : k < l.length) {j : Nat} {u : Value} (hj : (f l[k])[j]? = some u) : cs[0 + k * v + j]? = some u := by
  obtain ⟨h1, h2, h3, h4, h5⟩ := hr
  dsimp only at h2 h3 h4 h5
  have hlt := (List.getElem?_eq_some_iff.1 hj).1
  rw [h.len] at hlt
  rw [Nat.zero_add, ← rec_get h hk hj, ← h5, List.getElem?_take, if_pos]
  have := mul_lt hk hlt
  rw [rec_len h] at h1
  omega
theorem rec_n (h : Rec f v) (hv : 0 < v) {n : Nat} {R : RowS} {l : List α} (hr : rowOK v R n (recC f l)) : n = l.length := by
  have h1 := hr.1
  rw [rec_len h] at h1
  exact (Nat.eq_of_mul_eq_mul_right hv h1).symm
theorem rec_here (h : Rec f v) (hv : 0 < v) {n : Nat} {R : RowS} {l : List α} (hr : rowOK v R n (recC f l)) {k : Nat} (hk : k < l.length) : ∃ b cs c, R = some (b, cs, c) := by
  have hn := rec_n h hv hr
  cases R with
  | none => have := hr.2; simp only at this; omega
  | some x => exact ⟨x.1, x.2.1, x.2.2, rfl⟩
theorem rec_part (h : Rec f v) {e : TypeId} {R : RowS} {n : Nat} {l : List α} {own : List (Nat × Obj)} {ro : List Snap} {w : World} (hR : rowOK v R n (recC f l)) (hm : Mem w own ro) (hin : ∀ p ∈ rowO e R, p ∈ own) {i j : Nat} {a : Addr} (ha : rowA R = some a) {u : Value} (hu : (recC f (l.drop i))[j]? = some u) :
    w.cell? ((a.add (i * v)).add j) = some u := by
  obtain _ | ⟨b, cs, c⟩ := R
  · cases ha
  · cases ha
    obtain ⟨h1, h2, h3, h4, h5⟩ := hR
    dsimp only at h2 h3 h4 h5
    rw [mk_add, mk_add, Nat.zero_add]
    rw [hm.cell_own (hin (b, .cells cs.toArray e (0, 0)) (.head _)) (i * v + j), List.getElem?_toArray]
    have hj := (List.getElem?_eq_some_iff.1 hu).1
    rw [← rec_drop h, List.length_drop, h1] at hj
    rw [← rec_drop h, List.getElem?_drop, ← h5, List.getElem?_take, if_pos (by omega)] at hu
    exact hu
theorem rec_all_at (h : Rec f v) {e : TypeId} {R : RowS} {n : Nat} {l : List α} {own : List (Nat × Obj)} {ro : List Snap} {w : World} (hR : rowOK v R n (recC f l)) (hm : Mem w own ro) (hin : ∀ p ∈ rowO e R, p ∈ own) {j : Nat} {a : Addr} (ha : rowA R = some a) {u : Value} (hu : (recC f l)[j]? = some u) :
    w.cell? (a.add j) = some u := by
  have := rec_part (i := 0) h hR hm hin ha (j := j) (by rw [List.drop_zero]; exact hu)
  obtain ⟨b, o, sp⟩ := a
  simpa [Addr.add] using this
theorem rec_none (h : Rec f v) (hv : 0 < v) {R : RowS} {n : Nat} {l : List α} (hR : rowOK v R n (recC f l)) (ha : rowA R = none) : l.length = 0 := by
  have hn := rec_n h hv hR
  obtain _ | ⟨b, cs, c⟩ := R
  · have := hR.2; simp only at this; omega
  · cases ha
end
def rowIn (w : World) (e : TypeId) (R : RowS) : Prop := ∀ p ∈ rowO e R, w.heap[p.1]? = some p.2
theorem Mem.rowIn {w : World} {own : List (Nat × Obj)} {ro : List Snap} (hm : Mem w own ro) {e : TypeId} {R : RowS} (h : ∀ p ∈ rowO e R, p ∈ own) : rowIn w e R := fun p hp => hm.own_at p (h p hp)
theorem rowIn.cell {w : World} {e : TypeId} {b c : Nat} {cs : List Value} (h : rowIn w e (some (b, cs, c))) {i : Nat} {u : Value} (hu : cs[i]? = some u) : w.cell? ⟨b, i, none⟩ = some u := by
  rw [cell_of_row w b i cs.toArray e (0, 0) (h (b, _) (.head _)), List.getElem?_toArray]; exact hu
end Go.PK

namespace Go.PK
open Go Go.RowKit
theorem ordE_rec : Rec Ord.cells 9 := ⟨fun _ => rfl, fun x u hu => by
  simp only [Ord.cells, List.mem_cons, List.not_mem_nil, or_false] at hu
  rcases hu with rfl | rfl | rfl | rfl | rfl | rfl | rfl | rfl | rfl <;> rfl⟩
theorem set_set {α : Type} {l : List α} {k : Nat} (x y : α) : (l.set k x).set k y = l.set k y := List.set_set ..
end Go.PK

namespace Go.PK
open Go Go.RowKit
def sumC (ls : List Ord) : List Value := [.int .i64 (sumW ls 0), .int .i64 (sumW ls 1), .int .i64 (sumW ls 2), .int .i64 (sumW ls 3)]
theorem sumC_at {ls : List Ord} {i : Nat} (h : i = 1 ∨ i = 2 ∨ i = 3) : (sumC ls)[0 + i * 1]? = some (.int .i64 (sumW ls (i : Int))) := by
  rcases h with rfl | rfl | rfl <;> rfl
theorem sum_put {ls : List Ord} {o : Ord} {i : Nat} (hi : o.id = (i : Int)) (h : i = 1 ∨ i = 2 ∨ i = 3) : (sumC ls).take (0 + i * 1) ++ (Value.int .i64 (sumW ls (i : Int) + o.copies)).cells.toList ++ (sumC ls).drop (0 + i * 1 + 1) = sumC (ls ++ [o]) := by
  have e : ∀ j : Int, sumW (ls ++ [o]) j = sumW ls j + if (i : Int) = j then o.copies else 0 := fun j => by rw [sumW_snoc, hi]
  unfold sumC
  rw [e, e, e, e]
  rcases h with rfl | rfl | rfl <;> simp [Value.cells]
def spW (ls : List Ord) (n k : Nat) : List Ord := if k = 0 then ls else if k = 1 then ls.set n { ls.getD n zeroO with num := 9 } else ls.set n { ls.getD n zeroO with price := (ls.getD n zeroO).price + 1 }
theorem spW_len (ls : List Ord) (n k : Nat) : (spW ls n k).length = ls.length := by
  unfold spW
  split
  · rfl
  · split <;> rw [List.length_set]
theorem ordD_lt {ls : List Ord} {n : Nat} (h : n < ls.length) : ls.getD n zeroO = ls[n] := by rw [List.getD_eq_getElem?_getD, List.getElem?_eq_getElem h]; rfl
theorem spW_mem {ls : List Ord} {n k : Nat} (hn : n < ls.length) {o : Ord} (h : o ∈ spW ls n k) : ∃ p ∈ ls, o = p ∨ o = { p with num := 9 } ∨ o = { p with price := p.price + 1 } := by
  unfold spW at h
  rw [ordD_lt hn] at h
  split at h
  · exact ⟨o, h, .inl rfl⟩
  · split at h
    · rcases List.mem_or_eq_of_mem_set h with h | h
      · exact ⟨o, h, .inl rfl⟩
      · exact ⟨ls[n], List.getElem_mem hn, .inr (.inl h)⟩
    · rcases List.mem_or_eq_of_mem_set h with h | h
      · exact ⟨o, h, .inl rfl⟩
      · exact ⟨ls[n], List.getElem_mem hn, .inr (.inr h)⟩
theorem spW_A {ls : List Ord} (hK : ∀ o ∈ ls, lineK o) {n k : Nat} (hn : n < ls.length) : ∀ o ∈ spW ls n k, o.okA ∧ wrO (pf o) := fun o ho => by
  obtain ⟨p, hp, h⟩ := spW_mem hn ho
  have hk := hK p hp
  unfold lineK at hk
  rcases h with rfl | rfl | rfl <;> refine ⟨⟨⟨?_, ?_, ?_, ?_, ?_, ?_⟩, ?_, ?_, ?_⟩, ⟨?_, ?_, ?_, ?_, ?_, ?_⟩⟩ <;> (try unfold pf) <;> (try unfold in64) <;> (try dsimp only) <;> omega
theorem line_A {ls : List Ord} (hK : ∀ o ∈ ls, lineK o) : ∀ o ∈ ls, o.okA ∧ wrO (pf o) := fun o ho => by
  have hk := hK o ho
  unfold lineK at hk
  refine ⟨⟨⟨?_, ?_, ?_, ?_, ?_, ?_⟩, ?_, ?_, ?_⟩, ⟨?_, ?_, ?_, ?_, ?_, ?_⟩⟩ <;> (try unfold pf) <;> (try unfold in64) <;> (try dsimp only) <;> omega
theorem inv_c {s : SG} {ls : List Ord} : (goI s.tol s.fs s.L (fun _ => none) ls).1 ≠ 0 → ∃ c, c ≠ 0 ∧ invoiceG s ls 0 = (c, s) := fun h => ⟨_, h, by unfold invoiceG; rw [if_neg (by decide), if_pos h]⟩
theorem spW_bad {ls : List Ord} (hK : ∀ o ∈ ls, lineK o) (hl : ls.length ≤ 6) {n k : Nat} (hn : n < ls.length) (hk : k = 1 ∨ k = 2) :
    ∃ c, c ≠ 0 ∧ invoiceG s3W (rdTI (txI (spW ls n k))).1 (rdTI (txI (spW ls n k))).2 = (c, s3W) := by
  obtain ⟨_, _, _, h4⟩ := inv_text (ls := spW ls n k) (by rw [spW_len]; omega) (fun o ho => (spW_A hK hn o ho).2)
  rw [h4, if_neg (fun e => by have := congrArg List.length e; rw [spW_len, List.length_nil] at this; omega)]
  refine inv_c fun h0 => ?_
  have hk0 : k ≠ 0 := by omega
  have hp := hK ls[n] (List.getElem_mem hn)
  unfold lineK at hp
  rcases hk with rfl | rfl
  · have hm : normI { ls[n] with num := 9 } ∈ (spW ls n 1).map normI := List.mem_map_of_mem (by unfold spW; rw [ordD_lt hn, if_neg (by decide), if_pos rfl]; exact List.mem_set hn _)
    obtain ⟨x, fi, h1, ⟨h2, h3⟩, _⟩ := goI_match h0 _ hm
    have h1 : lkL (LW fun _ => 0) ls[n].id = some (x, fi) := h1
    rw [lkW hp.1] at h1
    injection h1 with h1; injection h1 with h1 _
    subst h1
    have h3 : ls[n].id = 9 := h3
    omega
  · have hm : normI { ls[n] with price := ls[n].price + 1 } ∈ (spW ls n 2).map normI := List.mem_map_of_mem (by unfold spW; rw [ordD_lt hn, if_neg (by decide), if_neg (by decide)]; exact List.mem_set hn _)
    obtain ⟨x, fi, h1, _, h3⟩ := goI_match h0 _ hm
    have h1 : lkL (LW fun _ => 0) ls[n].id = some (x, fi) := h1
    rw [lkW hp.1] at h1
    injection h1 with h1; injection h1 with h1 _
    subst h1
    have h3 : nearP 0 (ls[n].price + 1) (10 * ls[n].id) := h3
    unfold nearP at h3
    rw [hp.2.2.2.1] at h3
    omega
theorem last_inv {ls : List Ord} (hK : ∀ o ∈ ls, lineK o) (hl : ls.length ≤ 6) :
    (¬(0 < ls.length ∧ sumW ls 1 ≤ 5 ∧ sumW ls 2 ≤ 5 ∧ sumW ls 3 ≤ 5) → ∃ c, c ≠ 0 ∧ invoiceG s3W (rdTI (txI ls)).1 (rdTI (txI ls)).2 = (c, s3W)) ∧
    ((0 < ls.length ∧ sumW ls 1 ≤ 5 ∧ sumW ls 2 ≤ 5 ∧ sumW ls 3 ≤ 5) → ∃ q : Int → Int, (∀ j, j = 1 ∨ j = 2 ∨ j = 3 → q j = sumW ls j) ∧ invoiceG s3W (rdTI (txI ls)).1 (rdTI (txI ls)).2 = (0, ⟨fsW (totalP ls) (540 - totalP ls), 0, LW q⟩)) := by
  obtain ⟨_, _, _, h4⟩ := inv_text (ls := ls) (by omega) (fun o ho => (line_A hK o ho).2)
  have hN : ∀ o ∈ ls, normI o = o := fun o ho => by
    have hk := hK o ho
    obtain ⟨_, _, _, _, _, h1, h2, h3, h5⟩ := hk
    unfold normI mkO
    cases o
    simp_all
  have hmap : ls.map normI = ls := by
    conv => rhs; rw [← List.map_id ls]
    exact List.map_congr_left hN
  rw [h4, hmap]
  have hW := goW (fs := fsW 0 540) rfl ls (fun _ => 0) (fun _ => none) hK (.inl rfl) (fun j => ⟨Int.le_refl _, by decide⟩)
  simp only [Int.zero_add] at hW
  have ht := total_sum hK
  have n1 := sumW_nn hK 1
  have n2 := sumW_nn hK 2
  have n3 := sumW_nn hK 3
  by_cases h0 : ls = []
  · subst h0
    refine ⟨fun _ => ⟨11, by decide, by rw [if_pos rfl]; rfl⟩, fun h => absurd h.1 (by decide)⟩
  rw [if_neg h0]
  have hp : 0 < ls.length := List.length_pos_iff.2 h0
  refine ⟨fun h => inv_c (hW.2 fun q => h ⟨hp, q⟩), fun ⟨_, h⟩ => ?_⟩
  obtain ⟨q, h5, h6⟩ := hW.1 h
  refine ⟨q, h6, ?_⟩
  have h5 : goI s3W.tol s3W.fs s3W.L (fun _ => none) ls = (0, LW q) := h5
  unfold invoiceG
  rw [if_neg (show ¬(0 : Int) ≠ 0 by decide), h5, if_neg (show ¬(0 : Int) ≠ 0 by decide)]
  have h7 := payW ls 0 540 hK (by decide) (by omega)
  rw [Int.zero_add] at h7
  show (0, (⟨ls.foldl (pay1 (LW fun _ => 0)) (fsW 0 540), 0, LW q⟩ : SG)) = _
  rw [h7]
theorem lnW_snoc {cs : List Int} {m : Nat} (hm : m < cs.length) : linesW cs (m + 1) = linesW cs m ++ [lnW m cs[m]] := by
  rw [linesW_snoc, List.getD_eq_getElem?_getD, List.getElem?_eq_getElem hm]; rfl
theorem sW_len (n : Nat) : (sW n).L.length ≤ 4000 := by
  show ((LW fun _ => 0).take n).length ≤ 4000
  rw [List.length_take]
  exact Nat.le_trans (Nat.min_le_right _ _) (by decide)
end Go.PK

namespace Go.PK
open Go Go.ChangeShapes Go.WideShapes Go.ChangeAt Go.RowKit
structure Meas (H : Type) where
  f : DataW H → Nat
  all : List (DataW H) → Nat
  str : ∀ bs, f (.lit (.string bs)) = bs.length + 1
  slice : ∀ es sp, f (.slice es sp) = all es + all sp + 1
  agg : ∀ ps, f (.agg ps) = all ps + 1
  cons : ∀ d r, all (d :: r) = f d + all r
  one : ∀ d, 1 ≤ f d
theorem Meas.len_le {H : Type} (M : Meas H) : ∀ (l : List (DataW H)), l.length ≤ M.all l
  | [] => Nat.zero_le _
  | x :: r => by
    rw [M.cons, List.length_cons]
    have h1 := M.len_le r
    have h2 := M.one x
    omega
structure RdrN {α : Type} (P : Program) (t : TypeId) (T : Ty α) (N : Nat) : Prop where
  size : P.cellsOf t = T.size
  pos : 0 < T.size
  rd : ∀ {H : Type} {enc : TypeId × Value → H} {w : World} {base : Nat} {sp : Nat → Bool} {held : Bool} {fuel : Nat} {cs : List Value} {x : DataW H × List MemPlace} (M : Meas H), M.f x.1 ≤ N → DataW.trod enc P w base sp held fuel t cs = some x → ∃ y, T.rd (fun _ => True) w cs y
theorem Rdr.N {α : Type} {P : Program} {t : TypeId} {T : Ty α} {N : Nat} (R : Rdr P t T) : RdrN P t T N := ⟨R.size, R.pos, fun _ _ h => R.rd h⟩
section
variable {P : Program} {H : Type} {enc : TypeId × Value → H}
end
section
variable {H : Type} {enc : TypeId × Value → H} {P : Program} {W : World} {base b0 : Nat} {sp : Nat → Bool} {held : Bool} {r : Reach} {t e : TypeId} {v : Value} {d : DataW H} {ps : List MemPlace}
theorem sliceRd.each {α : Type} {T : Ty α} {D : Nat → Prop} {v : Value} {xs : List α} {w : World} (h : sliceRd T D w v xs) {Q : α → Prop} (hT : ∀ cs x, T.rd D w cs x → Q x) : ∀ x ∈ xs, Q x := by
  intro x hx
  obtain ⟨A, c, h1, h2, h3, h4⟩ := h
  obtain ⟨b, off, e, hD, hb, hc⟩ := h4 (List.length_pos_of_mem hx)
  obtain ⟨j, hj, rfl⟩ := List.getElem_of_mem hx
  obtain ⟨cs, k1, k2⟩ := hc j hj
  exact hT _ _ k2
end
end Go.PK

namespace Go.PK
open Go Go.RowKit
end Go.PK

namespace Go.PK
open Go Go.RowKit
theorem Qz : (∀ (p : Prop) [Decidable p], (decide p = true) = p) ∧ (∀ (p : Prop) [Decidable p], (decide p = false) = ¬p) ∧ (∀ a b : Bool, ((a && b) = true) = (a = true ∧ b = true)) ∧ (∀ a b : Bool, ((a || b) = true) = (a = true ∨ b = true)) ∧ (∀ a b : Bool, ((a && b) = false) = (a = false ∨ b = false)) ∧ (∀ a b : Bool, ((a || b) = false) = (a = false ∧ b = false)) ∧ (∀ b : Bool, ((!b) = true) = (b = false)) ∧ (∀ b : Bool, ((!b) = false) = (b = true)) ∧ (∀ (p : Prop) [Decidable p], (¬¬p) = p) :=
  ⟨fun p _ => decide_eq_true_eq, fun p _ => propext decide_eq_false_iff_not, Bool.and_eq_true, Bool.or_eq_true, fun a b => propext Bool.and_eq_false_iff, fun a b => propext Bool.or_eq_false_iff, Bool.not_eq_true', Bool.not_eq_false', fun p _ => propext Decidable.not_not⟩
theorem Qy : (∀ (a : Bool × Bool) (xs bs : List (Bool × Bool)), (a :: xs) ++ bs = a :: (xs ++ bs)) ∧ (∀ xs : List (Bool × Bool), [] ++ xs = xs) ∧ (∀ v, gvl [] v = v) ∧ (∀ gs v, gvl ((true, true) :: gs) v = gvl gs v) ∧ (∀ gs v, gvl ((false, false) :: gs) v = gvl gs v) := ⟨fun _ _ _ => rfl, fun _ => rfl, gvl_nil, gvl_t, gvl_f⟩
theorem Zo {p : Prop} (h : p := by first | omega | (dsimp only; omega)) : p := h
theorem Zh {p : Prop} (h : p := by repeat (first | exact List.Mem.head _ | apply List.Mem.tail)) : p := h
theorem Zi {p : Prop} (h : p := by repeat (first | exact List.Mem.head _ | apply List.Mem.tail | apply List.mem_append_right)) : p := h
theorem Zu {p : Prop} (h : p := by repeat (first | exact Sub.nil | refine Sub.cons rfl ?_)) : p := h
theorem Zk {p : Prop} (h : p := by kernel_rfl) : p := h
theorem Zx {p : Prop} (h : p := by simp only [maxLen]; omega) : p := h
section
variable {P : Program} {n : Nat} {l : List (Nat × Value)} {own : List (Nat × Obj)} {ro : List Snap} {lops : List Oper} {Q : Exit → Act → World → Prop} {K : Act → World → Prop}
  {rest : List (Option Bool × Nat)} {k : Option Bool} {i d j dj : Nat} {op : Op} {ty t : TypeId} {pos : String} {af : Array Edge} {x : Operand} {v : Value} {b c want : Bool}
theorem Xm (h : WX P lops.toArray Q K rest n ((d, v) :: l) own ro) (ho : lops[i]? = some ⟨some d, .move x, ty, pos, af, none⟩ := by exact rfl) (hk : k.getD true = true := by exact rfl) (hd : decide (d < n) = true := by exact rfl) (hx : ev l x = some v := by exact rfl) : WX P lops.toArray Q K ((k, i) :: rest) n l own ro := x_val ho hk hd (v_move hx) h
theorem Xa (h : WX P lops.toArray Q K rest n ((d, v) :: l) own ro) (ho : lops[i]? = some ⟨some d, .assign x, ty, pos, af, none⟩ := by exact rfl) (hk : k.getD true = true := by exact rfl) (hd : decide (d < n) = true := by exact rfl) (hx : ev l x = some v := by exact rfl) : WX P lops.toArray Q K ((k, i) :: rest) n l own ro := x_val ho hk hd (v_assign hx) h
theorem Xv (ho : lops[i]? = some ⟨some d, op, ty, pos, af, none⟩) (hv : OpV P n l own ro op ty v) (h : WX P lops.toArray Q K rest n ((d, v) :: l) own ro) (hk : k.getD true = true := by exact rfl) (hd : decide (d < n) = true := by exact rfl) : WX P lops.toArray Q K ((k, i) :: rest) n l own ro := x_val ho hk hd hv h
theorem Xb (ho : lops[i]? = some ⟨some d, op, ty, pos, af, none⟩) (hv : OpV P n l own ro op ty (.bool b)) (h : ∀ c, c = b → WX P lops.toArray Q K rest n ((d, .bool c) :: l) own ro) (hk : k.getD true = true := by exact rfl) (hd : decide (d < n) = true := by exact rfl) : WX P lops.toArray Q K ((k, i) :: rest) n l own ro := x_bool ho hk hd hv h
theorem Xi (ho : lops[i]? = some ⟨some d, op, ty, pos, af, some (j, want)⟩) (hj : (lops[j]?).bind (·.dst) = some dj) (hb : l.lookup dj = some (.bool b)) (hv : b = want → OpV P n l own ro op ty v) (h : WX P lops.toArray Q K rest n ((d, gvl ([] ++ [(b, want)]) v) :: l) own ro) (hk : k.getD true = true := by exact rfl) (hd : decide (d < n) = true := by exact rfl) : WX P lops.toArray Q K ((k, i) :: rest) n l own ro := x_if [] ho hj hb hk hd (fun hg => hv hg.1) h
theorem Xg (h : WX P lops.toArray Q K rest n ((d, gvl ([] ++ [(b, want)]) v) :: l) own ro) (ho : lops[i]? = some ⟨some d, .move x, ty, pos, af, some (j, want)⟩ := by exact rfl) (hj : (lops[j]?).bind (·.dst) = some dj := by exact rfl) (hb : l.lookup dj = some (.bool b) := by exact rfl) (hk : k.getD true = true := by exact rfl) (hd : decide (d < n) = true := by exact rfl) (hx : b = want → ev l x = some v := by intro hg0; (try subst hg0); (try simp only [Qy]); exact rfl) : WX P lops.toArray Q K ((k, i) :: rest) n l own ro := x_if [] ho hj hb hk hd (fun hg => v_move (hx hg.1)) h
theorem Xj (ho : lops[i]? = some ⟨some d, op, ty, pos, af, some (j, want)⟩) (hj : (lops[j]?).bind (·.dst) = some dj) (hb : l.lookup dj = some (.bool b)) (hv : b = want → OpV P n l own ro op ty (.bool c)) (h : ∀ c', c' = c → WX P lops.toArray Q K rest n ((d, gvl ([] ++ [(b, want)]) (.bool c')) :: l) own ro) (hk : k.getD true = true := by exact rfl) (hd : decide (d < n) = true := by exact rfl) : WX P lops.toArray Q K ((k, i) :: rest) n l own ro := x_ifb [] ho hj hb hk hd (fun hg => hv hg.1) h
theorem Vl {td : TypeDesc} {p o : Nat} (ht : P.underlying t = some td) (hx : ev l x = some (.pointer (some ⟨p, o, none⟩))) (hd : aggT td = false := by exact rfl) (hc : At own ro p o v := by first | exact at_ownL (.head _) rfl | exact at_ownL (.tail _ (.head _)) rfl | exact at_ownL (.tail _ (.tail _ (.head _))) rfl | (apply at_ownL; ((repeat (first | exact List.Mem.head _ | apply List.Mem.tail | apply List.mem_append_right))); rfl) | (refine at_ro (by first | exact .head _ | exact .tail _ (.head _) | exact .tail _ (.tail _ (.head _)) | simp) ?_ (by assumption); trivial)) : OpV P n l own ro (.load t x) ty v := v_load ht hd hx hc
theorem Ze (h : S K n l own ro) : WX P lops.toArray Q K [] n l own ro := x_end h
theorem Zt {y : Code} (h : W P y Q n l own ro) : S (Exit.then (y.wp P Q) Q .normal) n l own ro := h
theorem Zs {x y : Code} (h : W P x (Exit.then (y.wp P Q) Q) n l own ro) : W P (.seq x y) Q n l own ro := w_seq h
theorem Zr {id : Nat} (h : WX P lops.toArray Q (fun a w => Q .normal a w) (tailFrom 0 lops.length) n l own ro) : W P (.region id lops.toArray false) Q n l own ro := rg_text h
end
end Go.PK
