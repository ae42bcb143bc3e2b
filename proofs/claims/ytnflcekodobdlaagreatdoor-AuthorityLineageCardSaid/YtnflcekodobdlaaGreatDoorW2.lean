/- Of the proofs of YtnflcekodobdlaaGreatDoor: PkRange PkRun PkSer PkSer2 PkSer3 PkTop PkSer4 PkSer5 PkRef4 PkSer6 PkTree PkTree2 PkTree3 PkSer7 PkSer8 PkSer9 PkCal4 PkSerW PkSan PkTurnG PkFull PkFull2 PkBent2 PkIss PkLaw25 PkSerR PkSerT PkSerU PkCod PkTab PkBld3 PkTab2 PkRound PkIter PkIter2 PkYld PkWds PkJoin PkAut PkAut2 PkAut3 PkRch PkAut4 PkIns PkCopy PkAut5 PkG24 PkG25 PkG26 PkFund2 PkG27 PkW24 PkD24 PkRec PkR24 PkG28 PkClm PkTake PkUnc PkUnc2 PkUnc3 PkR23 PkG29 PkEq PkLst PkNem PkRow8 PkRew, put together. -/
import Derived.Test.YtnflcekodobdlaaGreatDoorW1
import Derived.Maps.RangeRun
import Derived.Laws.IdiomStrings
import Derived.Laws.Cover4
import Derived.Laws.MakeOwn
import Derived.Lib.AtoiAllCases
import Derived.ArgAppend
import Derived.Lib.CountLaws
import Derived.Lib.UnsafeStr
import Derived.Lib.CutLaws
import Derived.OrdersIn
import Derived.RangeFuncCalls
import Derived.RangeFuncLeaves
import Derived.RangeFuncRecord
import Derived.RangeFuncSeq
import Derived.Lib.Join
import Derived.Lib.AppendZerosOnto
import Derived.Laws.CopyRow
import Derived.Lib.Overlaps
import Derived.Laws.Externs
import Derived.Lib.Small
import Derived.Laws.StructEq
import Derived.ChangeKeysEq
import Derived.Lib.AtoiTie
set_option linter.unusedVariables false
set_option linter.unusedSimpArgs false
set_option maxRecDepth 100000

namespace Go.PK
open Go Go.RowKit Go.Maps
section
variable {P : Program} {n : Nat} {l : List (Nat × Value)} {own : List (Nat × Obj)} {ro : List Snap} {lops : List Oper} {Q : Exit → Act → World → Prop} {K : Act → World → Prop}
  {rest : List (Option Bool × Nat)} {k : Option Bool} {i d : Nat} {t kt e ty : TypeId} {pos : String} {af : Array Edge} {m : Operand} {b r : Nat} {es : Array MapEntry} {clock : Nat}
theorem turned_set {w w1 : World} {r : Nat} {o o' : Obj} (h1 : w1 = w ∨ w1 = w.drew) (h : w.heap[r]? = some o) : Turned w (ChangeMaps.setBlock w1 r o') r o' := by
  rcases h1 with rfl | rfl
  · exact turned_obj h
  · have := turned_obj (o' := o') h
    exact ⟨this.os, this.tape, this.output, this.size, this.at_, this.other⟩
theorem x_range (ho : lops[i]? = some ⟨some d, .range t m, ty, pos, af, none⟩) (hk : (k == some true) = false) (hd : decide (d < n) = true) (ht : P.underlying t = some (.map kt e)) (hm : ev l m = some (.map (some b))) (hb : MapAt own ro b es clock)
    (h : ∀ r, WX P lops.toArray Q K rest n ((d, .pointer (some ⟨r, 0, none⟩)) :: l) ((r, .mapIter (some b) clock #[] clock) :: own) ro) : WX P lops.toArray Q K ((k, i) :: rest) n l own ro := by
  intro a w ha hw
  refine x_new (P := P) (Q := Q) (f := fun r => .pointer (some ⟨r, 0, none⟩)) (ob := .mapIter (some b) clock #[] clock) ho (go_none rfl) rfl hk hd (fun a w ha hw => ?_) h a w ha hw
  simp only [execOp, ha.eval hm, Sem.run_bind, run_range_map w t kt e b es clock ht (hb w hw), Result.andThen_ok, Sem.run_pure]
theorem x_next {it : Operand} {c0 : Nat} {seen : Array Nat} (l1 : List (Nat × Obj)) {l2 : List (Nat × Obj)} (ho : lops[i]? = some ⟨some d, .next it false, ty, pos, af, none⟩) (hd : decide (d < n) = true) (hi : ev l it = some (.pointer (some ⟨r, 0, none⟩)))
    (hown : own = l1 ++ (r, .mapIter (some b) clock seen c0) :: l2) (hc : clock ≤ c0) (hb : MapAt own ro b es clock) (hold : ∀ x ∈ es.toList, x.born < clock)
    (h0 : (leftOf es seen).size = 0 → WX P lops.toArray Q K rest n ((d, .tuple #[.bool false]) :: l) own ro)
    (h1 : ∀ e ∈ (leftOf es seen).toList, WX P lops.toArray Q K rest n ((d, .tuple #[.bool true, e.key, e.val]) :: l) (l1 ++ (r, .mapIter (some b) clock (seen.push e.born) clock) :: l2) ro) : WX P lops.toArray Q K ((none, i) :: rest) n l own ro := by
  subst hown
  intro a w ha hw
  have hw1 := go_none (lops := lops) (n := n) (l := l) (o := ⟨some d, .next it false, ty, pos, af, none⟩) rfl a ha
  simp only [wpX, List.getElem?_toArray, ho]
  intro w' hl
  rw [if_pos hw1]
  have hM := hw.later hl
  have hr : w'.heap[r]? = some (.mapIter (some b) clock seen c0) := hM.own_at (r, _) (by simp)
  have hd' : d < n := of_decide_eq_true hd
  unfold Oper.wp
  rcases run_next_at (P := P) w' ty r b clock c0 seen es clock hr (hb w' hM) hold hc with ⟨h2, h3⟩ | ⟨e, he, w1, h2, h3⟩
  · have hr2 : (execOp a.eval ⟨some d, .next it false, ty, pos, af, none⟩).run P w' = .ok (.value (.tuple #[.bool false])) w' := by
      simp only [execOp, ha.eval hi, Sem.run_bind, h3, Result.andThen_ok, Sem.run_pure]
    rw [hr2]
    show wpX P lops.toArray Q K rest (a.put (some d) _) w'
    exact h0 h2 _ w' (ha.put _ hd') hM
  · have hr2 : (execOp a.eval ⟨some d, .next it false, ty, pos, af, none⟩).run P w' = .ok (.value (.tuple #[.bool true, e.key, e.val])) (ChangeMaps.setBlock w1 r (.mapIter (some b) clock (seen.push e.born) clock)) := by
      simp only [execOp, ha.eval hi, Sem.run_bind, h3, Result.andThen_ok, Sem.run_pure]
    rw [hr2]
    show wpX P lops.toArray Q K rest (a.put (some d) _) _
    exact h1 e he _ _ (ha.put _ hd') (hM.turn (turned_set h2 hr))
theorem v_entry {it : Operand} {since : Nat} {seen : Array Nat} {x : MapEntry} (hi : ev l it = some (.pointer (some ⟨r, 0, none⟩))) (hr : (r, Obj.mapIter (some b) since (seen.push x.born) clock) ∈ own) (hb : MapAt own ro b es clock) (hx : x ∈ es.toList) (hn : (es.toList.map (·.born)).Nodup) :
    OpV P n l own ro (.entry it) ty (.tuple #[x.key, x.val]) := by
  intro A w o ha hw ho _
  simp only [execOp, ho, ha.eval hi, Sem.run_bind, run_entry_at w r b since seen es clock x (hw.own_at _ hr) (hb w hw) hx hn, Result.andThen_ok, Sem.run_pure]
end
structure Iter (es : Array MapEntry) (seen : Array Nat) (dn : List MapEntry) : Prop where
  seen : seen.toList = dn.map (·.born)
  sub : ∀ e ∈ dn, e ∈ es.toList
  nd : dn.Nodup
theorem Iter.nil {es : Array MapEntry} : Iter es #[] [] := ⟨rfl, fun e h => (by cases h), List.nodup_nil⟩
theorem left_mem {es : Array MapEntry} {seen : Array Nat} {e : MapEntry} : e ∈ (leftOf es seen).toList ↔ e ∈ es.toList ∧ e.born ∉ seen.toList := by
  unfold leftOf
  simp [Array.mem_filter]
theorem Iter.push {es : Array MapEntry} {seen : Array Nat} {dn : List MapEntry} (h : Iter es seen dn) {e : MapEntry} (he : e ∈ (leftOf es seen).toList) : Iter es (seen.push e.born) (dn ++ [e]) ∧ e ∈ es.toList ∧ e ∉ dn := by
  obtain ⟨h1, h2⟩ := left_mem.1 he
  have h3 : e ∉ dn := fun hm => h2 (by rw [h.seen]; exact List.mem_map_of_mem hm)
  refine ⟨⟨by rw [Array.toList_push, h.seen, List.map_append]; rfl, fun x hx => ?_, ?_⟩, h1, h3⟩
  · rcases List.mem_append.1 hx with hx | hx
    · exact h.sub x hx
    · rw [List.mem_singleton.1 hx]; exact h1
  · rw [List.nodup_append]
    exact ⟨h.nd, by simp, fun a ha b hb => by rw [List.mem_singleton.1 hb]; exact fun q => h3 (q ▸ ha)⟩
section
variable {P : Program} {kt : TypeId} {es : Array MapEntry} {ck : Nat} {f : Value → Option Value}
theorem MapC.bornLt (h : MapC P kt es ck f) : ∀ x ∈ es.toList, x.born < ck := fun x hx => by
  obtain ⟨j, hj, rfl⟩ := List.getElem_of_mem hx
  exact h.born j _ (by rw [← Array.getElem?_toList]; exact List.getElem?_eq_getElem hj)
theorem MapC.bornNd (h : MapC P kt es ck f) : (es.toList.map (·.born)).Nodup := by
  rw [List.nodup_iff_pairwise_ne, List.pairwise_map, List.pairwise_iff_getElem]
  intro i j hi hj hij he
  have := h.once i j _ _ (by rw [← Array.getElem?_toList]; exact List.getElem?_eq_getElem hi) (by rw [← Array.getElem?_toList]; exact List.getElem?_eq_getElem hj) he
  omega
theorem MapC.nd (h : MapC P kt es ck f) : es.toList.Nodup := by
  have := h.bornNd
  rw [List.nodup_iff_pairwise_ne, List.pairwise_map] at this
  rw [List.nodup_iff_pairwise_ne]
  exact this.imp fun hne he => hne (by rw [he])
theorem MapC.entry (h : MapC P kt es ck f) {x : MapEntry} (hx : x ∈ es.toList) : f x.key = some x.val := by
  obtain ⟨j, hj, rfl⟩ := List.getElem_of_mem hx
  exact h.f.val j _ (by rw [← Array.getElem?_toList]; exact List.getElem?_eq_getElem hj)
theorem Iter.done (h : MapC P kt es ck f) {seen : Array Nat} {dn : List MapEntry} (hi : Iter es seen dn) (h0 : (leftOf es seen).size = 0) : dn.Perm es.toList := by
  rw [List.perm_ext_iff_of_nodup hi.nd h.nd]
  intro a
  refine ⟨hi.sub a, fun ha => ?_⟩
  have hl : (leftOf es seen).toList = [] := by
    rw [← List.length_eq_zero_iff, Array.length_toList]; exact h0
  have h1 : a ∉ (leftOf es seen).toList := by rw [hl]; exact List.not_mem_nil
  rw [left_mem] at h1
  have h2 : a.born ∈ seen.toList := by
    by_cases hb : a.born ∈ seen.toList
    · exact hb
    · exact absurd ⟨ha, hb⟩ h1
  rw [hi.seen] at h2
  obtain ⟨x, hx, he⟩ := List.mem_map.1 h2
  have hxe := hi.sub x hx
  have hnd := h.bornNd
  rw [List.nodup_iff_pairwise_ne, List.pairwise_map, List.pairwise_iff_getElem] at hnd
  obtain ⟨i, hi', rfl⟩ := List.getElem_of_mem hxe
  obtain ⟨j, hj', rfl⟩ := List.getElem_of_mem ha
  rcases Nat.lt_trichotomy i j with hij | hij | hij
  · exact absurd he (hnd i j hi' hj' hij)
  · subst hij; exact hx
  · exact absurd he.symm (hnd j i hj' hi' hij)
open Classical in
theorem len_sub {α : Type} : ∀ {a b : List α}, a.Nodup → (∀ x ∈ a, x ∈ b) → a.length ≤ b.length
  | [], _, _, _ => Nat.zero_le _
  | x :: l, b, hn, hs => by
    obtain ⟨h1, h2⟩ := List.nodup_cons.1 hn
    have h3 := len_sub (b := b.erase x) h2 fun y hy => (List.mem_erase_of_ne (fun e : y = x => h1 (e ▸ hy))).2 (hs y (.tail _ hy))
    have h4 := hs x (.head _)
    rw [List.length_erase_of_mem h4] at h3
    have := List.length_pos_of_mem h4
    rw [List.length_cons]; omega
theorem Iter.len (h : MapC P kt es ck f) {seen : Array Nat} {dn : List MapEntry} (hi : Iter es seen dn) : dn.length ≤ es.size := by
  rw [← Array.length_toList]
  exact len_sub hi.nd hi.sub
end
end Go.PK

namespace Go.PK
open Go Go.RowKit Go.Maps
section
variable {P : Program} {n : Nat} {l : List (Nat × Value)} {own : List (Nat × Obj)} {ro : List Snap} {lops : List Oper} {Q : Exit → Act → World → Prop} {K : Act → World → Prop}
  {rest : List (Option Bool × Nat)} {k : Option Bool} {i d : Nat} {t t' e ty : TypeId} {pos : String} {af : Array Edge} {x m : Operand} {r : Nat}
theorem x_srange {s : ByteArray} (ho : lops[i]? = some ⟨some d, .range t m, ty, pos, af, none⟩) (hk : (k == some true) = false) (hd : decide (d < n) = true) (ht : P.underlying t = some .string) (hm : ev l m = some (.string s))
    (h : ∀ r, WX P lops.toArray Q K rest n ((d, .pointer (some ⟨r, 0, none⟩)) :: l) ((r, .stringIter s 0) :: own) ro) : WX P lops.toArray Q K ((k, i) :: rest) n l own ro := by
  refine x_new (P := P) (Q := Q) (f := fun r => .pointer (some ⟨r, 0, none⟩)) (ob := .stringIter s 0) ho (go_none rfl) rfl hk hd (fun a w ha hw => ?_) h
  simp only [execOp, ha.eval hm, Sem.run_bind, run_range_string w t s ht, Result.andThen_ok, Sem.run_pure]
  rfl
theorem x_snext {it : Operand} {s : ByteArray} {p : Nat} (l1 : List (Nat × Obj)) {l2 : List (Nat × Obj)} (ho : lops[i]? = some ⟨some d, .next it true, ty, pos, af, none⟩) (hd : decide (d < n) = true) (hi : ev l it = some (.pointer (some ⟨r, 0, none⟩)))
    (hown : own = l1 ++ (r, .stringIter s p) :: l2)
    (h0 : ¬p < s.size → WX P lops.toArray Q K rest n ((d, .tuple #[.bool false]) :: l) own ro)
    (h1 : p < s.size → WX P lops.toArray Q K rest n ((d, .tuple #[.bool true, .int .i64 (p : Nat), .int .i32 ((Utf8.decode s p).1 : Nat)]) :: l) (l1 ++ (r, .stringIter s (p + (Utf8.decode s p).2)) :: l2) ro) : WX P lops.toArray Q K ((none, i) :: rest) n l own ro := by
  subst hown
  intro a w ha hw
  have hw1 := go_none (lops := lops) (n := n) (l := l) (o := ⟨some d, .next it true, ty, pos, af, none⟩) rfl a ha
  simp only [wpX, List.getElem?_toArray, ho]
  intro w' hl
  rw [if_pos hw1]
  have hM := hw.later hl
  have hr : w'.heap[r]? = some (.stringIter s p) := hM.own_at (r, _) (by simp)
  have hd' : d < n := of_decide_eq_true hd
  unfold Oper.wp
  by_cases hp : p < s.size
  · have hr2 : (execOp a.eval ⟨some d, .next it true, ty, pos, af, none⟩).run P w' = .ok (.value (.tuple #[.bool true, .int .i64 (p : Nat), .int .i32 ((Utf8.decode s p).1 : Nat)])) { w' with heap := w'.heap.setIfInBounds r (.stringIter s (p + (Utf8.decode s p).2)) } := by
      simp [execOp, ha.eval hi, Instr.next, getObj, setObj, Sem.run, hr, Result.andThen, hp, goInt]
    rw [hr2]
    show wpX P lops.toArray Q K rest (a.put (some d) _) _
    exact h1 hp _ _ (ha.put _ hd') (hM.turn (turned_obj hr))
  · have hr2 : (execOp a.eval ⟨some d, .next it true, ty, pos, af, none⟩).run P w' = .ok (.value (.tuple #[.bool false])) w' := by
      simp [execOp, ha.eval hi, Instr.next, getObj, Sem.run, hr, Result.andThen, hp]
    rw [hr2]
    show wpX P lops.toArray Q K rest (a.put (some d) _) w'
    exact h0 hp _ w' (ha.put _ hd') hM
theorem v_intStr {kk : IntKind} {z : Int} {c : Nat} (hs : (P.underlying t).isSome = true) (hd : P.underlying t' = some .string) (hx : ev l x = some (.int kk z)) (hz : z = (c : Nat)) : OpV P n l own ro (.convert t t' x) ty (.string (encB c)) := by
  subst hz
  intro A w o ha _ ho _
  simp only [execOp, ho, ha.eval hx, Sem.run_bind, run_convert_int_string w t t' kk _ hs hd, Result.andThen_ok, Sem.run_pure]
  rfl
def runeC (rs : List Nat) : List Value := rs.map fun c => .int .i32 (c : Nat)
theorem runeC_len (rs : List Nat) : (runeC rs).length = rs.length := by simp [runeC]
theorem runeC_at {rs : List Nat} {j : Nat} (h : j < rs.length) : (runeC rs)[j]? = some (.int .i32 (rs[j] : Nat)) := by simp [runeC, h]
theorem runesFrom_is (s : ByteArray) : Conv.runesFrom s s.size 0 #[] = (runeC (runes s)).toArray := by
  rw [runesFrom_eq]
  unfold runeC runes runesAt
  simp
theorem x_runes {s : ByteArray} (ho : lops[i]? = some ⟨some d, .convert t t' x, ty, pos, af, none⟩) (hk : (k == some true) = false) (hd : decide (d < n) = true)
    (hs : P.underlying t = some .string) (hd2 : P.underlying t' = some (.slice e)) (he : P.underlying e = some (.int .i32)) (hx : ev l x = some (.string s)) (hsz : s.size ≤ 70368744177664)
    (h : ∀ b cp (cs : List Value), (runes s).length ≤ cp → cs.take (runes s).length = runeC (runes s) → cs.length = cp → WX P lops.toArray Q K rest n ((d, .slice (some ⟨b, 0, none⟩) (runes s).length cp) :: l) ((b, .cells cs.toArray e (0, 0)) :: own) ro) : WX P lops.toArray Q K ((k, i) :: rest) n l own ro := by
  intro a w ha hw
  have hd' : d < n := of_decide_eq_true hd
  have hw1 := go_none (lops := lops) (n := n) (l := l) (o := ⟨some d, .convert t t' x, ty, pos, af, none⟩) rfl a ha
  simp only [wpX, List.getElem?_toArray, ho]
  have hln : (Conv.runesFrom s s.size 0 #[]).size = (runes s).length := by rw [runesFrom_is, List.size_toArray, runeC_len]
  have h46 : (Conv.runesFrom s s.size 0 #[]).size ≤ 70368744177664 := by
    have := runes_len s s.size 0 (by omega)
    rw [hln]
    unfold runes
    omega
  let rowOf (w' : World) : List Value := runeC (runes s) ++ List.replicate (grownCap w' (runes s).length 0 e - (runes s).length) (.int .i32 0)
  have hrun : ∀ w', (execOp a.eval ⟨some d, .convert t t' x, ty, pos, af, none⟩).run P w' = .ok (.value (.slice (some ⟨w'.heap.size, 0, none⟩) (runes s).length (grownCap w' (runes s).length 0 e))) (w'.drew.alloc (.cells (rowOf w').toArray e (0, 0))) := fun w' => by
    have := run_runes_of_string (P := P) w' t t' e s hs hd2 he h46
    rw [hln, runesFrom_is] at this
    simp only [execOp, ha.eval hx, Sem.run_bind, this, Result.andThen_ok, Sem.run_pure]
    have e2 : (runeC (runes s)).toArray ++ Array.replicate (grownCap w' (runes s).length 0 e - (runes s).length) (Value.int .i32 0) = (rowOf w').toArray := by
      apply Array.ext'
      simp [rowOf]
    rw [e2]
  have key : ∀ w', Later w w' → wpX P lops.toArray Q K rest (a.put (some d) (.slice (some ⟨w'.heap.size, 0, none⟩) (runes s).length (grownCap w' (runes s).length 0 e))) (w'.drew.alloc (.cells (rowOf w').toArray e (0, 0))) := fun w' hl => by
    have hge := grownCap_ge w' (runes s).length 0 e
    refine h w'.heap.size _ (rowOf w') hge ?_ ?_ _ _ (ha.put _ hd') ?_
    · show (runeC (runes s) ++ _).take _ = _
      rw [List.take_append_of_le_length (by rw [runeC_len]; exact Nat.le_refl _), List.take_of_length_le (by rw [runeC_len]; exact Nat.le_refl _)]
    · show (runeC (runes s) ++ _).length = _
      rw [List.length_append, runeC_len, List.length_replicate]; omega
    · exact ((hw.later hl).later (Later.drew w')).new _
  cases k with
  | none =>
    intro w' hl
    rw [if_pos hw1]
    unfold Oper.wp
    rw [hrun]
    exact key w' hl
  | some b0 =>
    have : b0 = false := by cases b0 <;> simp_all
    subst this
    dsimp only
    rw [if_pos hw1]
    intro w' hl
    unfold Oper.wp
    rw [hrun]
    exact ⟨(Later.drew w').trans (Later.alloc _ _), key w' hl⟩
theorem v_runeStr {b c cp : Nat} {z : Int} {e' : TypeId} {fz : Nat × Nat} (hs : P.underlying t = some (.slice e)) (he : P.underlying e = some (.int .i32)) (hd : P.underlying t' = some .string) (hx : ev l x = some (.slice (some ⟨b, 0, none⟩) 1 cp)) (hb : (b, Obj.cells [Value.int .i32 z].toArray e' fz) ∈ own) (hz : z = (c : Nat)) : OpV P n l own ro (.convert t t' x) ty (.string (encB c)) := by
  subst hz
  intro A w o ha hw ho _
  have hc : ∀ j, j < ([(c : Int)] : List Int).length → w.cell? ((⟨b, 0, none⟩ : Addr).add j) = some (.int .i32 (([(c : Int)] : List Int).getD j 0)) := fun j hj => by
    obtain rfl : j = 0 := by simpa using hj
    have h1 := hw.cell_own hb 0
    have h2 : ((⟨b, 0, none⟩ : Addr).add 0) = ⟨b, 0, none⟩ := by unfold Addr.add; split <;> simp_all
    rw [h2, h1]
    simp
  have := run_convert_runes (P := P) w t t' e ⟨b, 0, none⟩ 1 cp [(c : Int)] (Nat.le_refl _) hs he hd hc
  simp only [execOp, ho, ha.eval hx, Sem.run_bind, this, Result.andThen_ok, Sem.run_pure]
  have h2 : runesBytes (([(c : Int)] : List Int).take 1) = encB c := by
    show ByteArray.empty ++ Utf8.encode (c : Int) = Utf8.encode (c : Int)
    exact ByteArray.empty_append
  rw [h2]
end
end Go.PK

namespace Go.PK
open Go Go.RowKit
def baseL : List Int → List Int → Int → Int
  | s :: ss, l :: ls, n => baseL ss ls (n * l + s - 1)
  | _, _, n => n
def lowP : List Int → Int → List Int × Int
  | [], r => ([], r)
  | l :: ls, r => (((lowP ls r).2 % l + 1) :: (lowP ls r).1, (lowP ls r).2 / l)
def valL : List Int → List Int → Int → Int
  | n :: ns, l :: ls, k => valL ns ls (k * l + n - 1)
  | _, _, k => k
def lvOK (ss ls : List Int) : Prop := ss.length = ls.length ∧ ∀ j (h1 : j < ss.length) (h2 : j < ls.length), 1 ≤ ls[j] ∧ ls[j] ≤ 1000 ∧ 1 ≤ ss[j] ∧ ss[j] ≤ ls[j]
theorem lvOK.tl {s l : Int} {ss ls : List Int} (h : lvOK (s :: ss) (l :: ls)) : lvOK ss ls := ⟨by simpa using h.1, fun j h1 h2 => by
  have := h.2 (j + 1) (by simpa using h1) (by simpa using h2)
  simpa using this⟩
theorem lvOK.hd {s l : Int} {ss ls : List Int} (h : lvOK (s :: ss) (l :: ls)) : 1 ≤ l ∧ l ≤ 1000 ∧ 1 ≤ s ∧ s ≤ l := h.2 0 (by simp) (by simp)
end Go.PK

namespace Go.PK
open Go Go.RowKit
structure Pat where
  first : Int
  days : Int
  lv : List Int
  st : List Int
deriving DecidableEq
def lvAt (p : Pat) (j : Nat) : Prop := 1 ≤ p.lv.getD j 0 ∧ p.lv.getD j 0 ≤ 1000 ∧ 1 ≤ p.st.getD j 0 ∧ p.st.getD j 0 ≤ p.lv.getD j 0
instance (p : Pat) (j : Nat) : Decidable (lvAt p j) := by unfold lvAt; infer_instance
def rightQ (p : Pat) : Prop := (1 ≤ p.lv.length ∧ p.lv.length ≤ 4 ∧ p.st.length = p.lv.length ∧ p.lv.getD 0 0 = 0 ∧ 0 ≤ p.st.getD 0 0 ∧ p.st.getD 0 0 ≤ 1000000) ∧ (∀ j, j < p.lv.length → 1 ≤ j → lvAt p j) ∧ (1 ≤ p.days ∧ p.days ≤ 10000) ∧ okDay p.first
instance (p : Pat) : Decidable (rightQ p) := by unfold rightQ; infer_instance
theorem getD_lt {l : List Int} {j : Nat} (h : j < l.length) : l.getD j 0 = l[j] := by rw [List.getD_eq_getElem?_getD, List.getElem?_eq_getElem h]; rfl
theorem rightQ.split {p : Pat} (h : rightQ p) : ∃ s0 ls ss, p.lv = 0 :: ls ∧ p.st = s0 :: ss ∧ 0 ≤ s0 ∧ s0 ≤ 1000000 ∧ lvOK ss ls ∧ ls.length ≤ 3 := by
  obtain ⟨⟨h1, h2, h3, h4, h5, h6⟩, h7, _, _⟩ := h
  obtain ⟨f, d, lv, st⟩ := p
  dsimp only at h1 h2 h3 h4 h5 h6 h7
  cases lv with
  | nil => simp at h1
  | cons a ls =>
    cases st with
    | nil => simp at h3
    | cons s0 ss =>
      have h4 : a = 0 := h4
      subst h4
      refine ⟨s0, ls, ss, rfl, rfl, h5, h6, ⟨by simpa using h3, fun j a b => ?_⟩, by simpa using h2⟩
      have := h7 (j + 1) (by simpa using b) (by omega)
      unfold lvAt at this
      dsimp only at this
      simp only [List.getD_cons_succ] at this
      rw [getD_lt a, getD_lt b] at this
      exact this
def baseP (p : Pat) : Int := baseL p.st.tail p.lv.tail 0
def lowK (p : Pat) (k : Int) : List Int × Int := lowP p.lv.tail (baseP p + k)
def numsP (p : Pat) (k : Int) : List Int := (p.st.headD 0 + (lowK p k).2) :: (lowK p k).1
theorem lvOK.one {ss ls : List Int} (h : lvOK ss ls) : ∀ l ∈ ls, 1 ≤ l := fun l hl => by
  obtain ⟨j, hj, rfl⟩ := List.mem_iff_getElem.1 hl
  exact (h.2 j (by rw [h.1]; exact hj) hj).1
def numK (p : Pat) (ns : List Int) : Int := valL ns.tail p.lv.tail (ns.getD 0 0 - p.st.getD 0 0) - baseP p
def numC (p : Pat) (ns : List Int) : Prop := rightQ p ∧ ns.length = p.lv.length ∧ p.st.getD 0 0 ≤ ns.getD 0 0 ∧ ns.getD 0 0 ≤ p.st.getD 0 0 + 100000 ∧ (∀ j, j < ns.length → 1 ≤ j → 1 ≤ ns.getD j 0 ∧ ns.getD j 0 ≤ p.lv.getD j 0) ∧ 0 ≤ numK p ns ∧ numK p ns < 100000
instance (p : Pat) (ns : List Int) : Decidable (numC p ns) := by unfold numC; infer_instance
def numP (p : Pat) (ns : List Int) : Option Int := if numC p ns then some (numK p ns) else none
end Go.PK

namespace Go.PK
open Go Go.RowKit
theorem rightQ.at {p : Pat} (h : rightQ p) {j : Nat} (h1 : 1 ≤ j) (h2 : j < p.lv.length) : 1 ≤ p.lv.getD j 0 ∧ p.lv.getD j 0 ≤ 1000 ∧ 1 ≤ p.st.getD j 0 ∧ p.st.getD j 0 ≤ p.lv.getD j 0 := h.2.1 j h2 h1
theorem getD_tail (l : List Int) (j : Nat) : l.tail.getD j 0 = l.getD (j + 1) 0 := by cases l <;> simp
section
variable {P : Program} {n : Nat} {l : List (Nat × Value)} {own : List (Nat × Obj)} {ro : List Snap} {lops : List Oper} {Q : Exit → Act → World → Prop} {K : Act → World → Prop}
  {rest : List (Option Bool × Nat)} {k : Option Bool} {i d : Nat} {op : Op} {ty : TypeId} {pos : String} {af : Array Edge} {x y z' : Operand} {t t1 t2 : TypeId}
theorem made_one (z : Value) (hz : z.cells = #[z]) (c : Nat) : madeCells z.cells (c * 1) = (List.replicate c z).toArray := by
  unfold madeCells
  rw [hz, Nat.mul_one]
  apply Array.ext'
  simp only [Array.toList_map, Array.toList_range]
  rw [List.eq_replicate_iff]
  refine ⟨by simp, fun b hb => ?_⟩
  obtain ⟨j, _, rfl⟩ := List.mem_map.1 hb
  simp [Nat.mod_one]
theorem x_makeSlice {z : Value} {e : TypeId} {c bytes : Nat} {kl kc : IntKind} (ho : lops[i]? = some ⟨some d, .makeSlice t x y, ty, pos, af, none⟩) (hk : (k == some true) = false) (hd : decide (d < n) = true)
    (hx : ev l x = some (.int kl (c : Nat))) (hy : ev l y = some (.int kc (c : Nat))) (ht : P.underlying t = some (.slice e)) (hi : (P.info? e).map (fun j => (j.zero, j.size, j.bytes)) = some (some z, 1, bytes)) (hz : z.cells = #[z]) (hc : bytes * c ≤ 281474976710656) (hm : c ≤ maxLen)
    (h : ∀ b, WX P lops.toArray Q K rest n ((d, .slice (some ⟨b, 0, none⟩) c c) :: l) ((b, .cells (List.replicate c z).toArray e) :: own) ro) : WX P lops.toArray Q K ((k, i) :: rest) n l own ro := by
  obtain ⟨inf, hi1, hi2⟩ := Option.map_eq_some_iff.1 hi
  simp only [Prod.mk.injEq] at hi2
  obtain ⟨hiz, his, hib⟩ := hi2
  refine x_new (f := fun b => .slice (some ⟨b, 0, none⟩) c c) ho (go_none rfl) rfl hk hd (fun a w ha hw => ?_) h
  have hr := run_make (P := P) w t e inf z ht hi1 hiz kl kc (c : Nat) (c : Nat) (by omega) (by omega) (by rw [hib, ← Int.natCast_mul]; omega) (by simp only [maxLen] at hm; omega)
  rw [his, Int.toNat_natCast, made_one z hz] at hr
  simp [execOp, ha.eval hx, ha.eval hy, hr]
end
end Go.PK

namespace Go.PK
open Go Go.RowKit
section
variable {P : Program} {H : Type} {enc : TypeId × Value → H} {W : World} {base b0 : Nat} {sp : Nat → Bool} {held : Bool} {r : Reach} {t e : TypeId} {v : Value} {d : DataW H} {ps : List MemPlace}
end
end Go.PK

namespace Go.PK
open Go Go.RowKit
theorem rightQ.one {p : Pat} (h : rightQ p) : ∀ l ∈ p.lv.tail, 1 ≤ l := fun l hl => by
  obtain ⟨j, hj, rfl⟩ := List.getElem_of_mem hl
  have hj' : j + 1 < p.lv.length := by simp at hj; omega
  have := (h.at (j := j + 1) (by omega) hj').1
  rw [← getD_lt hj, getD_tail]; exact this
theorem numP_some {p : Pat} {ns : List Int} (h : numC p ns) : (numP p ns).getD 0 = numK p ns ∧ (numP p ns).isSome = true := by unfold numP; rw [if_pos h]; exact ⟨rfl, rfl⟩
theorem numP_none {p : Pat} {ns : List Int} (h : ¬numC p ns) : (numP p ns).getD 0 = 0 ∧ (numP p ns).isSome = false := by unfold numP; rw [if_neg h]; exact ⟨rfl, rfl⟩
end Go.PK

namespace Go.PK
open Go Go.RowKit
theorem rowOK.set {size n b c k : Nat} {cs xs : List Value} {v : Value} (h : rowOK size (some (b, cs, c)) n xs) (hk : k < n * size) : rowOK size (some (b, cs.set k v, c)) n (xs.set k v) := by
  obtain ⟨h1, h2, h3, h4, h5⟩ := h
  exact ⟨by simpa using h1, h2, h3, by simpa using h4, by simp only at h5 ⊢; rw [List.take_set, h5]⟩
theorem rightQ.lv {p : Pat} (h : rightQ p) : lvOK p.st.tail p.lv.tail := by
  obtain ⟨s0, ls, ss, h1, h2, _, _, h5, _⟩ := h.split
  rw [h1, h2]; exact h5
end Go.PK

namespace Go.PK
open Go Go.RowKit
end Go.PK

namespace Go.PK
open Go Go.RowKit
structure Ent where
  fr : Int
  to : Int
  sk : Bool
  day : Int
deriving DecidableEq
def entC (x : Ent) : List Value := [.int .i64 x.fr, .int .i64 x.to, .bool x.sk, .int .i64 x.day]
def entsC (l : List Ent) : List Value := l.flatMap entC
def entIn (x : Ent) : Prop := in64 x.fr ∧ in64 x.to ∧ in64 x.day
def tyEnt : Ty Ent where
  size := 4
  rd := fun _ _ cs x => cs = entC x ∧ entIn x
  len := fun h => by rw [h.1]; rfl
  keep := fun h _ => h
theorem ents_rd {D : Nat → Prop} {w : World} {own : List (Nat × Obj)} {ro : List Snap} {e : TypeId} {R : RowS} {es : List Ent} {n : Nat} (hr : rowOK 4 R n (entsC es)) (hn : n = es.length) (hi : ∀ x ∈ es, entIn x)
    (hm : Mem w own ro) (hin : ∀ p ∈ rowO e R, p ∈ own) (hD : ∀ p ∈ rowO e R, D p.1) : sliceRd tyEnt D w (rowV R n) es := by
  subst hn
  have h : RowT tyEnt (fun _ => False) w R es := ⟨es.map entC, by simp, by rw [← List.flatMap_def]; exact hr, fun j h1 h2 => by rw [List.getElem_map]; exact ⟨rfl, hi _ (List.getElem_mem h2)⟩⟩
  exact h.rd hm hin (fun _ h => h.elim) hD rfl
def atoiV (x : ByteArray) : Int := match Lib.atoiAll (bl x) with | .ok n => n | _ => 0
def numOKb (x : ByteArray) : Bool := match Lib.atoiAll (bl x) with | .ok n => decide (0 ≤ n) && decide (x.size ≤ 7) && decide (itoaS n = x) | _ => false
def splitG (s sep : ByteArray) : List ByteArray := Lib.splitB sep 0 (Lib.countB s sep) s
def slash : ByteArray := ⟨#[47]⟩
def numsOf (s : ByteArray) : List Int × Bool := if (splitG s slash).all numOKb then ((splitG s slash).map atoiV, decide ((splitG s slash).length ≤ 4)) else ([], false)
def cutG (s sep : ByteArray) : ByteArray × ByteArray × Bool := (⟨(Lib.cut (bl s) (bl sep)).1.toArray⟩, ⟨(Lib.cut (bl s) (bl sep)).2.1.toArray⟩, (Lib.cut (bl s) (bl sep)).2.2)
def insI (es : List Ent) (to : Int) : Nat := es.findIdx (fun e => decide (to < e.fr))
def insE (es : List Ent) (x : Ent) : List Ent := es.take (insI es x.to) ++ x :: es.drop (insI es x.to)
theorem insI_le (es : List Ent) (to : Int) : insI es to ≤ es.length := List.findIdx_le_length
def tkR (text : ByteArray) : ByteArray := ⟨(Lib.trimPrefix (bl text) (bl ⟨#[120]⟩)).toArray⟩
def tkA (text : ByteArray) : ByteArray := (cutG (tkR text) ⟨#[45]⟩).1
def tkB (text : ByteArray) : ByteArray := if (cutG (tkR text) ⟨#[45]⟩).2.2 then (cutG (tkR text) ⟨#[45]⟩).2.1 else (cutG (tkR text) ⟨#[45]⟩).1
def tkS (text : ByteArray) : Bool := Lib.hasPrefix (bl text) (bl ⟨#[120]⟩)
theorem numP_rng (p : Pat) (ns : List Int) : 0 ≤ (numP p ns).getD 0 ∧ (numP p ns).getD 0 < 100000 := by
  by_cases h : numC p ns
  · rw [(numP_some h).1]; exact h.2.2.2.2.2
  · rw [(numP_none h).1]; decide
theorem put_two {cs A B C : List Value} {a : Nat} (h : cs.take a = A) (ha : A.length = a) (hl : a + B.length + C.length ≤ cs.length) :
    ((cs.take a ++ B ++ cs.drop (a + B.length)).take (a + B.length) ++ C ++ (cs.take a ++ B ++ cs.drop (a + B.length)).drop (a + B.length + C.length)).length = cs.length ∧
    ((cs.take a ++ B ++ cs.drop (a + B.length)).take (a + B.length) ++ C ++ (cs.take a ++ B ++ cs.drop (a + B.length)).drop (a + B.length + C.length)).take (a + B.length + C.length) = A ++ (B ++ C) := by
  have hla : (cs.take a ++ B).length = a + B.length := by rw [h, List.length_append, ha]
  refine ⟨?_, ?_⟩
  · simp only [List.length_append, List.length_take, List.length_drop]; omega
  · rw [show (cs.take a ++ B ++ cs.drop (a + B.length)).take (a + B.length) = cs.take a ++ B from by rw [← hla]; exact List.take_left, h]
    rw [show a + B.length + C.length = (A ++ B ++ C).length by simp [ha]; omega, List.take_left, List.append_assoc]
theorem put_back {cs A B C : List Value} {a : Nat} (h : cs.take a = A) (ha : A.length = a) (hl : a + B.length + C.length ≤ cs.length) :
    ((cs.take (a + B.length) ++ C ++ cs.drop (a + B.length + C.length)).take a ++ B ++ (cs.take (a + B.length) ++ C ++ cs.drop (a + B.length + C.length)).drop (a + B.length)).length = cs.length ∧
    ((cs.take (a + B.length) ++ C ++ cs.drop (a + B.length + C.length)).take a ++ B ++ (cs.take (a + B.length) ++ C ++ cs.drop (a + B.length + C.length)).drop (a + B.length)).take (a + B.length + C.length) = A ++ (B ++ C) := by
  have hla : (cs.take (a + B.length)).length = a + B.length := by rw [List.length_take]; omega
  have e1 : (cs.take (a + B.length) ++ C ++ cs.drop (a + B.length + C.length)).take a = A := by
    rw [List.append_assoc, List.take_append_of_le_length (by omega), List.take_take, Nat.min_eq_left (by omega), h]
  have e2 : (cs.take (a + B.length) ++ C ++ cs.drop (a + B.length + C.length)).drop (a + B.length) = C ++ cs.drop (a + B.length + C.length) := by
    rw [List.append_assoc]
    have h9 := List.drop_left (l₁ := cs.take (a + B.length)) (l₂ := C ++ cs.drop (a + B.length + C.length))
    rw [hla] at h9
    exact h9
  rw [e1, e2]
  refine ⟨?_, ?_⟩
  · simp only [List.length_append, List.length_drop]; omega
  · rw [show A ++ B ++ (C ++ cs.drop (a + B.length + C.length)) = (A ++ (B ++ C)) ++ cs.drop (a + B.length + C.length) by simp [List.append_assoc], show a + B.length + C.length = (A ++ (B ++ C)).length by simp [ha]; omega]
    exact List.take_left
end Go.PK

namespace Go.PK
open Go Go.RowKit
inductive Pl where
  | done
  | flt (i : Nat) (t : Pl)
  | gr (i : Nat) (t e : Pl)
  | nil
def Pl.heads : Pl → List Nat
  | .gr i _ e => i :: e.heads
  | _ => []
section
variable {P : Program} {ops : Array Oper} {md : Region.Mode}
def treeB (md : Region.Mode) (ops : Array Oper) (n : Nat) : Bool → Nat → Pl → Array Bool → Bool
  | alt, f, .done, listed => !alt && decide (f = 0) && Region.seqB md ops (ops.size - n) n listed
  | alt, f, .flt i t, listed => !alt && decide (0 < f) && decide (i < n) && (Region.ready md ops listed).contains i && Region.free md ops listed i && treeB md ops n false (f - 1) t (listed.setIfInBounds i true)
  | alt, f, .gr i t e, listed => (alt || ((Region.ready md ops listed).all (fun j => ((Pl.gr i t e).heads).contains j) && !(Region.ready md ops listed).isEmpty)) && decide (0 < f) && decide (i < n) && treeB md ops n false (f - 1) t (listed.setIfInBounds i true) && treeB md ops n true f e listed
  | alt, _, .nil, _ => alt
end
section
variable {P : Program} {n : Nat} {l : List (Nat × Value)} {own : List (Nat × Obj)} {ro : List Snap}
variable {ops : Array Oper} {Q : Exit → Act → World → Prop} {K : Act → World → Prop} {i : Nat} {t e : Pl}
end
end Go.PK

namespace Go.PK
open Go Go.RowKit
section
variable {P : Program} {ops : Array Oper} {md : Region.Mode} {w0 : World}
def canOp0 (P : Program) (ops : Array Oper) (w0 : World) (i : Nat) (K : Act → World → Prop) (a : Act) (w : World) : Prop :=
  ∀ w', Later w w' → Later w0 w' → wpOp P ops (fun _ _ _ => False) i (fun a'' w'' => Later w0 w'' ∧ K a'' w'') a w'
def Yields0 (P : Program) (ops : Array Oper) (w0 : World) (o : Oper) (v : Value) (a : Act) : Prop :=
  (Region.wanted o (yielded ops a.tmps) = true ∧ ∀ w', Later w0 w' → fltAt P o a w' v) ∨ (Region.wanted o (yielded ops a.tmps) = false ∧ v = undef)
theorem Yields0.of_same {o : Oper} {v : Value} {a a' : Act} (hy : Yields0 P ops w0 o v a) (he : execOp a'.eval o = execOp a.eval o)
    (hw : Region.wanted o (yielded ops a'.tmps) = Region.wanted o (yielded ops a.tmps)) : Yields0 P ops w0 o v a' := by
  unfold Yields0 fltAt at *
  rw [he, hw]
  exact hy
theorem Yields0.canOp {i : Nat} {o : Oper} {v : Value} {a : Act} {w : World} (hi : ops[i]? = some o) (hy : Yields0 P ops w0 o v a) {K : Act → World → Prop}
    (h : ∀ w', Later w w' → K (a.put o.dst v) w') : canOp0 P ops w0 i K a w := by
  intro w' hw' h0
  unfold Go.wpOp
  simp only [hi]
  rcases hy with ⟨hw, hv⟩ | ⟨hw, rfl⟩
  · rw [if_pos hw]
    refine .inl ?_
    have h3 := hv w' h0
    unfold fltAt at h3
    unfold Oper.wp
    generalize (execOp a.eval o).run P w' = r at *
    cases r with
    | ok n w1 =>
      cases n <;> simp only [fltUpon] at h3 <;> simp only [Oper.upon]
      case value u => obtain ⟨rfl, rfl⟩ := h3; exact ⟨h0, h _ hw'⟩
      case skip => obtain ⟨rfl, rfl⟩ := h3; exact ⟨h0, h _ hw'⟩
      case enter f args =>
        obtain ⟨rfl, hc⟩ := h3
        exact hc.mono fun e w2 ⟨he, hl⟩ => by subst he; exact ⟨h0.trans hl, h _ (hw'.trans hl)⟩
    | halt x w1 => simp only [fltUpon] at h3
  · rw [if_neg (by rw [hw]; exact Bool.false_ne_true)]
    exact ⟨h0, h _ hw'⟩
end
section
variable {P : Program} {n : Nat} {l : List (Nat × Value)} {own : List (Nat × Obj)} {ro : List Snap}
theorem Mem.frozen {w : World} (h : Mem w own ro) : Mem w [] ((w, fun _ => True) :: ro) where
  own_at := fun p hp => by cases hp
  own_nd := by simp
  ro_st := fun s hs => by
    rcases List.mem_cons.1 hs with rfl | hs
    · exact ⟨rfl, rfl, rfl, Nat.le_refl _⟩
    · exact h.ro_st s hs
  ro_at := fun s hs k hk hlt => by
    rcases List.mem_cons.1 hs with rfl | hs
    · rfl
    · exact h.ro_at s hs k hk hlt
  apart := fun p hp => by cases hp
variable {ops : Array Oper} {Q : Exit → Act → World → Prop} {K : Act → World → Prop} {i : Nat} {t e : Pl} {w0 : World}
end
end Go.PK

namespace Go.PK
open Go Go.RowKit
section
variable {P : Program} {ops : Array Oper} {md : Region.Mode} {oF : List (Nat × Obj)} {rF : List Snap}
def canOpJ (P : Program) (ops : Array Oper) (oF : List (Nat × Obj)) (rF : List Snap) (i : Nat) (K : Act → World → Prop) (a : Act) (w : World) : Prop :=
  ∀ w', Later w w' → Mem w' oF rF → wpOp P ops (fun _ _ _ => False) i (fun a'' w'' => Mem w'' oF rF ∧ K a'' w'') a w'
theorem canOpJ_mono {i : Nat} {a : Act} {w : World} {K K' : Act → World → Prop} (h : ∀ a w, K a w → K' a w) (hh : canOpJ P ops oF rF i K a w) : canOpJ P ops oF rF i K' a w :=
  fun w' hw h0 => wpOp_mono (fun _ _ hk => ⟨hk.1, h _ _ hk.2⟩) (hh w' hw h0)
theorem canOpJ_later {i : Nat} {a : Act} {w w1 : World} {K : Act → World → Prop} (hw : Later w w1) (hh : canOpJ P ops oF rF i K a w) : canOpJ P ops oF rF i K a w1 :=
  fun w' hw' h0 => hh w' (hw.trans hw') h0
def wpAnyJ (P : Program) (md : Region.Mode) (ops : Array Oper) (oF : List (Nat × Obj)) (rF : List Snap) (n : Nat) (L : Array Bool → Act → World → Prop) : Nat → Array Bool → Act → World → Prop
  | 0, listed, a, w => L listed a w
  | f + 1, listed, a, w => Region.ready md ops listed ≠ [] ∧ ∀ i ∈ Region.ready md ops listed, i < n ∧ canOpJ P ops oF rF i (wpAnyJ P md ops oF rF n L f (listed.setIfInBounds i true)) a w
theorem wpAnyJ_later {n : Nat} {L : Array Bool → Act → World → Prop} (hL : LaterClosed L) : ∀ (f : Nat) (listed : Array Bool) (a : Act) (w w' : World), Later w w' →
    wpAnyJ P md ops oF rF n L f listed a w → wpAnyJ P md ops oF rF n L f listed a w'
  | 0, _, _, _, _, h, hh => hL _ _ _ _ h hh
  | _ + 1, _, _, _, _, h, hh => ⟨hh.1, fun i hi => ⟨(hh.2 i hi).1, canOpJ_later h (hh.2 i hi).2⟩⟩
theorem wpAny_of_canJ {n g : Nat} {L : Array Bool → Act → World → Prop} {Q' : Exit → Act → World → Prop} (hL : ∀ listed a w, Mem w oF rF → L listed a w → wpAny P md ops Q' g listed a w) :
    ∀ (f : Nat) (listed : Array Bool) (a : Act) (w : World), Mem w oF rF → wpAnyJ P md ops oF rF n L f listed a w → wpAny P md ops Q' (f + g) listed a w
  | 0, listed, a, w, h0, h => by rw [Nat.zero_add]; exact hL _ _ _ h0 h
  | f + 1, listed, a, w, h0, h => by
    rw [show f + 1 + g = (f + g) + 1 by omega]
    refine ⟨fun he => absurd he h.1, fun i hi => ?_⟩
    have h1 := (h.2 i hi).2 w (Later.refl w) h0
    have h2 : wpOp P ops (fun _ _ _ => False) i (wpAny P md ops Q' (f + g) (listed.setIfInBounds i true)) a w :=
      wpOp_mono (fun a' w' h' => wpAny_of_canJ hL f _ a' w' h'.1 h'.2) h1
    unfold wpOp at h2 ⊢
    split
    · rename_i ho; simp only [ho] at h2; exact h2
    · rename_i o ho
      simp only [ho] at h2
      split
      · rename_i hw
        simp only [hw, if_true] at h2
        rcases h2 with h2 | ⟨_, _, _, h2⟩
        · refine .inl ?_
          unfold Oper.wp at h2 ⊢
          generalize (execOp a.eval o).run P w = r at *
          cases r with
          | ok x w' =>
            cases x <;> simp only [Oper.upon] at h2 ⊢ <;> first
              | exact h2
              | (refine Calls.mono h2 fun e w'' he => ?_
                 cases e with
                 | returned u => exact he
                 | panicked c => exact he.elim
                 | outgrown => obtain ⟨_, _, hf⟩ := he; exact hf.elim)
          | halt x w' => cases x <;> simp only [Oper.upon] at h2 ⊢
        · exact h2.elim
      · rename_i hw
        simp only [hw] at h2
        exact h2
def YieldsJ (P : Program) (ops : Array Oper) (oF : List (Nat × Obj)) (rF : List Snap) (o : Oper) (v : Value) (a : Act) : Prop :=
  (Region.wanted o (yielded ops a.tmps) = true ∧ ∀ w', Mem w' oF rF → fltAt P o a w' v) ∨ (Region.wanted o (yielded ops a.tmps) = false ∧ v = undef)
theorem YieldsJ.of_same {o : Oper} {v : Value} {a a' : Act} (hy : YieldsJ P ops oF rF o v a) (he : execOp a'.eval o = execOp a.eval o)
    (hw : Region.wanted o (yielded ops a'.tmps) = Region.wanted o (yielded ops a.tmps)) : YieldsJ P ops oF rF o v a' := by
  unfold YieldsJ fltAt at *
  rw [he, hw]
  exact hy
theorem YieldsJ.canOp {i : Nat} {o : Oper} {v : Value} {a : Act} {w : World} (hi : ops[i]? = some o) (hy : YieldsJ P ops oF rF o v a) {K : Act → World → Prop}
    (h : ∀ w', Later w w' → K (a.put o.dst v) w') : canOpJ P ops oF rF i K a w := by
  intro w' hw' h0
  unfold Go.wpOp
  simp only [hi]
  rcases hy with ⟨hw, hv⟩ | ⟨hw, rfl⟩
  · rw [if_pos hw]
    refine .inl ?_
    have h3 := hv w' h0
    unfold fltAt at h3
    unfold Oper.wp
    generalize (execOp a.eval o).run P w' = r at *
    cases r with
    | ok n w1 =>
      cases n <;> simp only [fltUpon] at h3 <;> simp only [Oper.upon]
      case value u => obtain ⟨rfl, rfl⟩ := h3; exact ⟨h0, h _ hw'⟩
      case skip => obtain ⟨rfl, rfl⟩ := h3; exact ⟨h0, h _ hw'⟩
      case enter f args =>
        obtain ⟨rfl, hc⟩ := h3
        exact hc.mono fun e w2 ⟨he, hl⟩ => by subst he; exact ⟨Mem.later h0 hl, h _ (hw'.trans hl)⟩
    | halt x w1 => simp only [fltUpon] at h3
  · rw [if_neg (by rw [hw]; exact Bool.false_ne_true)]
    exact ⟨h0, h _ hw'⟩
theorem canOp_putJ {j : Nat} {oi oj : Oper} {v : Value} (hj : ops[j]? = some oj) (hap : oi.apart ops oj = true)
    (hsi : ∀ cs b, oi.op ≠ .select cs b) (hsj : ∀ cs b, oj.op ≠ .select cs b) {K : Act → World → Prop} {a : Act} {w : World}
    (hy : YieldsJ P ops oF rF oi v a) (h : canOpJ P ops oF rF j K (a.put oi.dst v) w) :
    canOpJ P ops oF rF j (fun a' w' => YieldsJ P ops oF rF oi v a' ∧ K (a'.put oi.dst v) w') a w := by
  obtain ⟨h1, h2, h3⟩ := Oper.apart_spec hap
  intro w' hw' h0
  have keep : ∀ (a : Act), YieldsJ P ops oF rF oi v a → ∀ u, YieldsJ P ops oF rF oi v (a.put oj.dst u) := fun a hy u =>
    hy.of_same (execOp_put oi hsi a oj.dst u h3) (wanted_put oi a oj.dst u h3)
  have keepD : ∀ d, YieldsJ P ops oF rF oi v { a with defers := d :: a.defers } := fun d => hy.of_same rfl rfl
  have h := h w' hw' h0
  unfold Go.wpOp at *
  simp only [hj] at *
  rw [wanted_put oj a oi.dst v h1] at h
  split
  · rename_i hw
    simp only [hw, if_true] at h
    rcases h with h | ⟨hasks, _, _, hlets⟩
    case inr => exact hlets.elim
    refine .inl ?_
    unfold Oper.wp at *
    rw [execOp_put oj hsj a oi.dst v h1] at h
    generalize (execOp a.eval oj).run P w' = r at *
    cases r with
    | ok n w1 =>
      cases n <;> simp only [Oper.upon] at h ⊢
      case value u => exact ⟨h.1, keep a hy u, by rw [← Act.put_comm a v u h2]; exact h.2⟩
      case skip => exact ⟨h.1, keep a hy _, by rw [← Act.put_comm a v undef h2]; exact h.2⟩
      case defer d =>
        refine ⟨h.1, keep _ (keepD d) _, ?_⟩
        rw [← Act.put_comm _ v undef h2, ← Act.put_defers]
        exact h.2
      case enter f args =>
        refine Calls.mono h fun e w2 he => ?_
        cases e with
        | returned u => exact ⟨he.1, keep a hy u, by rw [← Act.put_comm a v u h2]; exact he.2⟩
        | panicked c => exact he
        | outgrown => exact he
      case row row args => exact Rows.mono h fun u w2 he => ⟨he.1, keep a hy u, by rw [← Act.put_comm a v u h2]; exact he.2⟩
    | halt x w1 =>
      cases x <;> simp only [Oper.upon] at h ⊢
  · rename_i hw
    simp only [hw] at h
    exact ⟨h.1, keep a hy _, by rw [← Act.put_comm a v undef h2]; exact h.2⟩
theorem wpAnyJ_first {n i : Nat} {oi : Oper} {v : Value} {L : Array Bool → Act → World → Prop} (hL : LaterClosed L) (hi : ops[i]? = some oi) (hsel : ∀ (j : Nat) (o : Oper) cs b, ops[j]? = some o → o.op ≠ .select cs b)
    (hnt : ∀ listed, HeadInv md ops n listed → listed.getD i true = false → ∀ j ∈ Region.ready md ops listed, j < n)
    (hdone : ∀ listed a w, L listed a w → ∀ j ∈ Region.ready md ops listed, n ≤ j) (hin : i < n) :
    ∀ (f : Nat) (listed : Array Bool) (a : Act) (w : World), HeadInv md ops n listed →
      (∀ j oj, ops[j]? = some oj → j ≠ i → listed.getD j true = false → (∀ e ∈ oj.after, Region.binds md e = true → e.on ≠ i) → oi.apart ops oj = true) →
      i ∈ Region.ready md ops listed → YieldsJ P ops oF rF oi v a →
      wpAnyJ P md ops oF rF n L f (listed.setIfInBounds i true) (a.put oi.dst v) w → wpAnyJ P md ops oF rF n L (f + 1) listed a w := by
  intro f
  induction f with
  | zero =>
    intro listed a w inv _ hr hy H
    have hun := (mem_ready.1 hr).1
    refine ⟨fun h => (by rw [h] at hr; cases hr), fun j hj => ?_⟩
    have hjn := hnt listed inv hun j hj
    refine ⟨hjn, ?_⟩
    by_cases hji : j = i
    · subst hji; exact hy.canOp hi fun w' hw' => hL _ _ _ _ hw' H
    · have := hdone _ _ _ H j (ready_mono hj hji)
      omega
  | succ f ih =>
    intro listed a w inv hfree hr hy H
    have hun := (mem_ready.1 hr).1
    refine ⟨fun h => (by rw [h] at hr; cases hr), fun j hj => ?_⟩
    have hjn := hnt listed inv hun j hj
    refine ⟨hjn, ?_⟩
    by_cases hji : j = i
    · subst hji; exact hy.canOp hi fun w' hw' => wpAnyJ_later hL _ _ _ _ _ hw' H
    · have h1 := (H.2 j (ready_mono hj hji)).2
      obtain ⟨hjun, oj, hoj, hall⟩ := mem_ready.1 hj
      have hnot : ∀ e ∈ oj.after, Region.binds md e = true → e.on ≠ i := fun e he hb heq => by
        have h1 := hall e he hb
        rw [heq, getD_both hun] at h1
        cases h1
      have h2 := canOp_putJ hoj (hfree j oj hoj hji hjun hnot) (fun cs b => hsel i oi cs b hi) (fun cs b => hsel j oj cs b hoj) hy h1
      have hfree' : ∀ k ok, ops[k]? = some ok → k ≠ i → (listed.setIfInBounds j true).getD k true = false →
          (∀ e ∈ ok.after, Region.binds md e = true → e.on ≠ i) → oi.apart ops ok = true := fun k ok hk hki hun hno => by
        refine hfree k ok hk hki ?_ hno
        by_cases hjk : j = k
        · subst hjk; exact hjun
        · rw [getD_set_ne true hjk] at hun; exact hun
      refine canOpJ_mono (fun a' w' h3 => ih (listed.setIfInBounds j true) a' w' (inv.set hj hjn) hfree' (ready_mono hr (Ne.symm hji)) h3.1 ?_) h2
      rw [Array.setIfInBounds_comm _ _ hji]
      exact h3.2
def wpJ (P : Program) (ops : Array Oper) (oF : List (Nat × Obj)) (rF : List Snap) (K : Act → World → Prop) : Pl → Act → World → Prop
  | .done, a, w => K a w
  | .flt i t, a, w => match ops[i]? with
    | none => False
    | some o => if Region.wanted o (yielded ops a.tmps) then ∃ v, (∀ w', Mem w' oF rF → fltAt P o a w' v) ∧ wpJ P ops oF rF K t (a.put o.dst v) w else wpJ P ops oF rF K t (a.put o.dst undef) w
  | .gr i t e, a, w => (match ops[i]? with
    | none => False
    | some o => if Region.wanted o (yielded ops a.tmps) then ∀ w', Later w w' → o.wp P a w' (fun a'' w'' => Mem w'' oF rF ∧ wpJ P ops oF rF K t a'' w'') (fun _ _ _ => False) else wpJ P ops oF rF K t (a.put o.dst undef) w) ∧ wpJ P ops oF rF K e a w
  | .nil, _, _ => True
theorem wpAnyJ_tree {n : Nat} {Q : Act → World → Prop} (hQ : ∀ a w w', Later w w' → Q a w → Q a w') (hsel : Region.noSelect ops = true)
    (hnt : ∀ i, i < n → ∀ listed, HeadInv md ops n listed → listed.getD i true = false → ∀ j ∈ Region.ready md ops listed, j < n) :
    ∀ (t : Pl) (f : Nat) (listed : Array Bool) (a : Act) (w : World), HeadInv md ops n listed →
      (treeB md ops n false f t listed = true → wpJ P ops oF rF Q t a w → wpAnyJ P md ops oF rF n (fun listed' a' w' => Region.seqB md ops (ops.size - n) n listed' = true ∧ Q a' w') f listed a w) ∧
      (treeB md ops n true f t listed = true → wpJ P ops oF rF Q t a w → ∀ j ∈ t.heads, j ∈ Region.ready md ops listed → 0 < f ∧ j < n ∧ canOpJ P ops oF rF j (wpAnyJ P md ops oF rF n (fun listed' a' w' => Region.seqB md ops (ops.size - n) n listed' = true ∧ Q a' w') (f - 1) (listed.setIfInBounds j true)) a w)
  | .done, f, listed, a, w, _ => ⟨fun hB h => by
      simp only [treeB, Bool.and_eq_true, decide_eq_true_eq] at hB
      obtain ⟨⟨_, rfl⟩, hB⟩ := hB
      exact ⟨hB, h⟩, fun hB => by simp [treeB] at hB⟩
  | .flt i t, f, listed, a, w, inv => ⟨fun hB h => by
      simp only [treeB, Bool.and_eq_true, decide_eq_true_eq] at hB
      obtain ⟨⟨⟨⟨⟨_, hf⟩, hin⟩, hr⟩, hfr⟩, hB'⟩ := hB
      obtain ⟨g, rfl⟩ : ∃ g, f = g + 1 := ⟨f - 1, by omega⟩
      have hr' : i ∈ Region.ready md ops listed := by simpa using hr
      unfold wpJ at h
      cases ho : ops[i]? with
      | none => simp only [ho] at h
      | some o =>
        simp only [ho] at h
        obtain ⟨v, hy, hK⟩ : ∃ v, YieldsJ P ops oF rF o v a ∧ wpJ P ops oF rF Q t (a.put o.dst v) w := by
          by_cases hw : Region.wanted o (yielded ops a.tmps) = true
          · rw [if_pos hw] at h
            obtain ⟨v, h1, h2⟩ := h
            exact ⟨v, .inl ⟨hw, h1⟩, h2⟩
          · rw [if_neg hw] at h
            exact ⟨undef, .inr ⟨by simpa using hw, rfl⟩, h⟩
        exact wpAnyJ_first (fun _ _ _ _ hw hq => ⟨hq.1, hQ _ _ _ hw hq.2⟩) ho (Region.noSelect_spec hsel) (hnt i hin) (fun _ _ _ hL => seqB_ready hL.1) hin g listed a w inv (Region.free_spec ho hfr) hr' hy
          ((wpAnyJ_tree hQ hsel hnt t g _ _ _ (inv.set hr' hin)).1 (by simpa using hB') hK), fun hB => by simp [treeB] at hB⟩
  | .gr i t e, f, listed, a, w, inv => by
      have alt : ∀ alt, treeB md ops n alt f (.gr i t e) listed = true → wpJ P ops oF rF Q (.gr i t e) a w → ∀ j ∈ (Pl.gr i t e).heads, j ∈ Region.ready md ops listed → 0 < f ∧ j < n ∧ canOpJ P ops oF rF j (wpAnyJ P md ops oF rF n (fun listed' a' w' => Region.seqB md ops (ops.size - n) n listed' = true ∧ Q a' w') (f - 1) (listed.setIfInBounds j true)) a w := by
        intro alt hB h j hj hjr
        simp only [treeB, Bool.and_eq_true, decide_eq_true_eq] at hB
        obtain ⟨⟨⟨⟨_, hf⟩, hin⟩, hB1⟩, hB2⟩ := hB
        unfold wpJ at h
        obtain ⟨h1, h2⟩ := h
        simp only [Pl.heads, List.mem_cons] at hj
        by_cases hji : j = i
        · subst hji
          refine ⟨hf, hin, fun w' hw' h0 => ?_⟩
          cases ho : ops[j]? with
          | none => simp only [ho] at h1
          | some o =>
            simp only [ho] at h1
            unfold wpOp
            simp only [ho]
            by_cases hw : Region.wanted o (yielded ops a.tmps) = true
            · rw [if_pos hw] at h1 ⊢
              exact .inl (Oper.wp_mono (fun a' w2 hk => ⟨hk.1, (wpAnyJ_tree hQ hsel hnt t _ _ _ _ (inv.set hjr hin)).1 hB1 hk.2⟩) (h1 w' hw'))
            · rw [if_neg hw] at h1 ⊢
              exact ⟨h0, wpAnyJ_later (fun _ _ _ _ hw hq => ⟨hq.1, hQ _ _ _ hw hq.2⟩) _ _ _ _ _ hw' ((wpAnyJ_tree hQ hsel hnt t _ _ _ _ (inv.set hjr hin)).1 hB1 h1)⟩
        · have hj' : j ∈ e.heads := by rcases hj with h | h; exact absurd h hji; exact h
          exact (wpAnyJ_tree hQ hsel hnt e f listed a w inv).2 hB2 h2 j hj' hjr
      refine ⟨fun hB h => ?_, alt true⟩
      have hB0 := hB
      simp only [treeB, Bool.and_eq_true, decide_eq_true_eq, Bool.false_or] at hB
      obtain ⟨⟨⟨⟨⟨hall, hne⟩, hf⟩, _⟩, _⟩, _⟩ := hB
      obtain ⟨g, rfl⟩ : ∃ g, f = g + 1 := ⟨f - 1, by omega⟩
      refine ⟨fun h0 => by rw [h0] at hne; simp at hne, fun j hj => ?_⟩
      have hjh : j ∈ (Pl.gr i t e).heads := by simpa using List.all_eq_true.1 hall j hj
      exact (alt false hB0 h j hjh hj).2
  | .nil, f, listed, a, w, _ => ⟨fun hB => by simp [treeB] at hB, fun _ _ j hj => by simp [Pl.heads] at hj⟩
theorem wp_region_inv {id : Nat} {Q : Exit → Act → World → Prop} {a : Act} {w : World} {l : List Oper} (n : Nat) (t : Pl) (hm : P.follows .mixedOrders = true)
    (hB : (Region.noSelect l.toArray && (decide (n = l.toArray.size) || (decide (n < l.toArray.size) && Region.sinkB .any l.toArray n && Region.chainB .any l.toArray n)) && treeB .any l.toArray n false n t (Array.replicate l.toArray.size false)) = true)
    (hw : Mem w oF rF) (h : wpJ P l.toArray oF rF (fun a' w' => ∀ w'', Later w' w'' → wpList P l.toArray Q (l.drop n) a' w'') t a w) : (Code.region id l.toArray true).wp P Q a w := by
  simp only [Bool.and_eq_true] at hB
  obtain ⟨⟨hsel, hn⟩, hpl⟩ := hB
  have hnle : n ≤ l.toArray.size := by
    rcases Bool.or_eq_true _ _ ▸ hn with hn | hn
    · simp only [decide_eq_true_eq] at hn; omega
    · simp only [Bool.and_eq_true, decide_eq_true_eq] at hn; omega
  have hnt : ∀ i, i < n → ∀ listed, HeadInv .any l.toArray n listed → listed.getD i true = false → ∀ j ∈ Region.ready .any l.toArray listed, j < n := by
    intro i hin listed inv hun j hj
    rcases Bool.or_eq_true _ _ ▸ hn with hn | hn
    · simp only [decide_eq_true_eq] at hn
      have := ready_lt j hj
      omega
    · simp only [Bool.and_eq_true, decide_eq_true_eq] at hn
      obtain ⟨⟨hn, hs⟩, hc⟩ := hn
      rcases Nat.lt_or_ge j n with h | h
      · exact h
      · exact absurd hj (tail_waits hs hc hn inv _ i rfl hin hun j h)
  have inv0 : HeadInv .any l.toArray n (Array.replicate l.toArray.size false) :=
    ⟨by simp, fun j oj _ hl => (by rw [getD_replicate_false] at hl; cases hl), fun t _ ht => getD_in (by simpa using ht) (getD_replicate_false _ _)⟩
  have H := (wpAnyJ_tree (P := P) (md := .any) (oF := oF) (rF := rF) (Q := fun a' w' => ∀ w'', Later w' w'' → wpList P l.toArray Q (l.drop n) a' w'') (fun a w w' hw hq w'' hw'' => hq w'' (hw.trans hw'')) hsel hnt t n _ a w inv0).1 hpl h
  refine wp_region_any hm ?_
  have hdl : (l.drop n).length = l.toArray.size - n := by simp
  have := wpAny_of_canJ (Q' := Q) (g := l.toArray.size - n) (oF := oF) (rF := rF) (fun listed a' w' _ hL => by
    have := wpAny_of_seq (md := .any) (Q' := Q) (l.drop n) n listed a' w' (fun j => by simp [List.getElem?_drop]) (by rw [hdl]; exact hL.1) (hL.2 w' (Later.refl _))
    rwa [hdl] at this) _ _ _ _ (hw.later (Later.drew w)) (wpAnyJ_later (fun _ _ _ _ hw hq => ⟨hq.1, fun w2 h2 => hq.2 w2 (hw.trans h2)⟩) _ _ _ _ _ (Later.drew w) H)
  rw [show n + (l.toArray.size - n) = l.toArray.size by omega] at this
  exact this
end
section
variable {P : Program} {n : Nat} {l : List (Nat × Value)} {own oF : List (Nat × Obj)} {ro : List Snap} {lops : List Oper} {Q : Exit → Act → World → Prop} {K : Act → World → Prop} {i d : Nat} {t e : Pl} {op : Op} {ty : TypeId} {pos : String} {af : Array Edge}
theorem rg_inv {id : Nat} {Q : Exit → Act → World → Prop} (oF : List (Nat × Obj)) (m : Nat) (t : Pl) (hsub : oF.Sublist own) (hm : P.follows .mixedOrders = true)
    (hB : (Region.noSelect lops.toArray && (decide (m = lops.toArray.size) || (decide (m < lops.toArray.size) && Region.sinkB .any lops.toArray m && Region.chainB .any lops.toArray m)) && treeB .any lops.toArray m false m t (Array.replicate lops.toArray.size false)) = true)
    (h : S (wpJ P lops.toArray oF ro (fun a' w' => ∀ w'', Later w' w'' → wpList P lops.toArray Q (lops.drop m) a' w'') t) n l own ro) : W P (.region id lops.toArray true) Q n l own ro :=
  fun a w ha hw => wp_region_inv m t hm hB (hw.less hsub (fun _ h => h)) (h a w ha hw)
theorem j_run {o : Oper} (ho : lops[i]? = some o) (hgo : Go_ lops n l o) (hd0 : o.dst = some d) (hd : decide (d < n) = true) {v : Value} (hv : OpV P n l oF ro o.op o.type v)
    (h : S (wpJ P lops.toArray oF ro K t) n ((d, v) :: l) own ro) : S (wpJ P lops.toArray oF ro K (.flt i t)) n l own ro := fun a w ha hw => by
  have hd' : d < n := of_decide_eq_true hd
  unfold wpJ
  simp only [List.getElem?_toArray, ho]
  rw [if_pos (hgo a ha)]
  refine ⟨v, fun w' hw' => ?_, by rw [hd0]; exact h _ w (ha.put v hd') hw⟩
  unfold fltAt
  rw [hv a w' _ ha hw' rfl rfl]
  exact ⟨rfl, rfl⟩
theorem j_val (ho : lops[i]? = some ⟨some d, op, ty, pos, af, none⟩) (hd : decide (d < n) = true) {v : Value} (hv : OpV P n l oF ro op ty v)
    (h : S (wpJ P lops.toArray oF ro K t) n ((d, v) :: l) own ro) : S (wpJ P lops.toArray oF ro K (.flt i t)) n l own ro := j_run ho (go_none rfl) rfl hd hv h
theorem j_bool (ho : lops[i]? = some ⟨some d, op, ty, pos, af, none⟩) (hd : decide (d < n) = true) {b : Bool} (hv : OpV P n l oF ro op ty (.bool b))
    (h : ∀ c, c = b → S (wpJ P lops.toArray oF ro K t) n ((d, .bool c) :: l) own ro) : S (wpJ P lops.toArray oF ro K (.flt i t)) n l own ro := j_val ho hd hv (h b rfl)
theorem j_callv {f : FuncId} {fn : Func} {xs : Array Operand} {tys : Array TypeId} {vs : List Value} (ho : lops[i]? = some ⟨some d, .call ⟨.value (.func f), xs, tys⟩, ty, pos, af, none⟩) (hd : decide (d < n) = true)
    (hf : P.funcs[f]? = some fn) (hbody : (!(fn.name == "runtime.NumGoroutine") && fn.body.isSome) = true) (hx : evs l xs.toList = some vs) {v : Value}
    (hc : ∀ w, Mem w oF ro → Calls P f vs.toArray w fun e w' => e = .returned v ∧ Later w w')
    (h : S (wpJ P lops.toArray oF ro K t) n ((d, v) :: l) own ro) : S (wpJ P lops.toArray oF ro K (.flt i t)) n l own ro := fun a w ha hw => by
  have hd' : d < n := of_decide_eq_true hd
  unfold wpJ
  simp only [List.getElem?_toArray, ho]
  rw [if_pos (go_none (lops := lops) (n := n) (l := l) (o := ⟨some d, .call ⟨.value (.func f), xs, tys⟩, ty, pos, af, none⟩) rfl a ha)]
  refine ⟨v, fun w' hw' => ?_, h _ w (ha.put v hd') hw⟩
  unfold fltAt
  rw [run_callv (c := .func f) (fst := #[]) (cap := #[]) rfl ha rfl hf hbody hx]
  have := hc w' hw'
  exact ⟨rfl, by simpa using this⟩
theorem j_gr (h : WX P lops.toArray (fun _ _ _ => False) (fun a w => Mem w oF ro ∧ wpJ P lops.toArray oF ro K t a w) [(none, i)] n l own ro) (he : S (wpJ P lops.toArray oF ro K e) n l own ro) : S (wpJ P lops.toArray oF ro K (.gr i t e)) n l own ro := fun a w ha hw => by
  have h := h a w ha hw
  unfold wpJ
  refine ⟨?_, he a w ha hw⟩
  simp only [wpX] at h
  split <;> rename_i ho <;> simp only [ho] at h
  split <;> rename_i hw'
  · intro w2 h2
    have h := h w2 h2
    rw [if_pos hw'] at h
    exact Oper.wp_mono (fun a' w' hk => hk w' (Later.refl _)) h
  · have h := h w (Later.refl _)
    rw [if_neg hw'] at h
    exact (h w (Later.refl _)).2
theorem j_end (hsub : oF.Sublist own) (h : S (wpJ P lops.toArray oF ro K t) n l own ro) : S (fun a w => Mem w oF ro ∧ wpJ P lops.toArray oF ro K t a w) n l own ro := fun a w ha hw => ⟨hw.less hsub (fun _ h => h), h a w ha hw⟩
theorem j_nil : S (wpJ P lops.toArray oF ro K .nil) n l own ro := fun _ _ _ _ => trivial
theorem j_done {m : Nat} (h : WX P lops.toArray Q (fun a w => Q .normal a w) (tailFrom m lops.length) n l own ro) :
    S (wpJ P lops.toArray oF ro (fun a' w' => ∀ w'', Later w' w'' → wpList P lops.toArray Q (lops.drop m) a' w'') .done) n l own ro :=
  fun a w ha hw w2 h2 => wpList_of_X _ m a w2 rfl (wpX_later h2 (h a w ha hw))
end
end Go.PK

namespace Go.PK
open Go Go.RowKit
def serC (p : Pat) (r1 r2 R : RowS) (n : Nat) : List Value := [.int .i64 p.first, .int .i64 p.days, rowV r1 p.lv.length, rowV r2 p.st.length, rowV R n]
structure SerOK (p : Pat) (es : List Ent) (r1 r2 R : RowS) : Prop where
  fst : in64 p.first
  dys : in64 p.days
  lvs : rowOK 1 r1 p.lv.length (p.lv.map (Value.int .i64))
  lin : ∀ d ∈ p.lv, in64 d
  sts : rowOK 1 r2 p.st.length (p.st.map (Value.int .i64))
  sin : ∀ d ∈ p.st, in64 d
  ent : rowOK 4 R es.length (entsC es)
  ein : ∀ x ∈ es, entIn x
theorem SerOK.with {p : Pat} {es es' : List Ent} {r1 r2 R R' : RowS} (h : SerOK p es r1 r2 R) (h1 : rowOK 4 R' es'.length (entsC es')) (h2 : ∀ x ∈ es', entIn x) : SerOK p es' r1 r2 R' := ⟨h.fst, h.dys, h.lvs, h.lin, h.sts, h.sin, h1, h2⟩
end Go.PK

namespace Go.PK
open Go Go.RowKit
def entOK (x : Ent) : Prop := 0 ≤ x.fr ∧ x.fr ≤ x.to ∧ x.to < 100000 ∧ x.to - x.fr < 100 ∧ okDay x.day
theorem entOK.in {x : Ent} (h : entOK x) : entIn x := by
  obtain ⟨h1, h2, h3, h4, h5⟩ := h
  unfold okDay at h5
  exact ⟨by unfold in64; omega, by unfold in64; omega, by unfold in64; omega⟩
structure SerRd (w : World) (b : Nat) (p : Pat) (es : List Ent) (v1 v2 v3 : Value) : Prop where
  cells : ∀ j (hj : j < [Value.int .i64 p.first, Value.int .i64 p.days, v1, v2, v3].length), w.cell? ⟨b, j, none⟩ = some [Value.int .i64 p.first, Value.int .i64 p.days, v1, v2, v3][j]
  lvs : sliceRd tyI (fun _ => True) w v1 p.lv
  sts : sliceRd tyI (fun _ => True) w v2 p.st
  fst : in64 p.first
  dys : in64 p.days
  ent : sliceRd tyEnt (fun _ => True) w v3 es
theorem SerOK.rd {p : Pat} {es : List Ent} {r1 r2 R : RowS} (h : SerOK p es r1 r2 R) {w : World} {own : List (Nat × Obj)} {ro : List Snap} {b : Nat} {e e1 e2 : TypeId} (hm : Mem w own ro) (hb : (b, Obj.cells (serC p r1 r2 R es.length).toArray e (0, 0)) ∈ own)
    (h1 : ∀ q ∈ rowO e1 r1, q ∈ own) (h2 : ∀ q ∈ rowO e1 r2, q ∈ own) (h3 : ∀ q ∈ rowO e2 R, q ∈ own) : SerRd w b p es (rowV r1 p.lv.length) (rowV r2 p.st.length) (rowV R es.length) where
  cells := fun j hj => by
    have := hm.cell_own hb j
    rw [this, List.getElem?_toArray]
    exact List.getElem?_eq_getElem (l := serC p r1 r2 R es.length) hj
  lvs := rowI_rd (e := e1) h.lvs rfl h.lin hm h1 (fun _ _ => trivial)
  sts := rowI_rd (e := e1) h.sts rfl h.sin hm h2 (fun _ _ => trivial)
  fst := h.fst
  dys := h.dys
  ent := ents_rd (e := e2) h.ent rfl h.ein hm h3 (fun _ _ => trivial)
theorem SerRd.keep {w w' : World} {b : Nat} {p : Pat} {es : List Ent} {v1 v2 v3 : Value} (h : SerRd w b p es v1 v2 v3) (hl : Later w w') : SerRd w' b p es v1 v2 v3 :=
  ⟨fun j hj => (hl.cell (p := ⟨b, j, none⟩) (cell_lt (h.cells j hj))).trans (h.cells j hj), h.lvs.keep (Kept.later hl), h.sts.keep (Kept.later hl), h.fst, h.dys, h.ent.keep (Kept.later hl)⟩
end Go.PK

namespace Go.PK
open Go Go.RowKit
end Go.PK

namespace Go.PK
open Go Go.RowKit
theorem dig_c {c : Int} (h : 0 ≤ c) : IntKind.u8.wrap (48 + c.tmod 10) = ((UInt8.ofNat (48 + (c % 10).toNat)).toNat : Nat) := by
  rw [Int.tmod_eq_emod_of_nonneg h, IntKind.wrap_u8, UInt8.toNat_ofNat_of_lt' (by show _ < 256; omega)]
  omega
end Go.PK

namespace Go.PK
open Go Go.RowKit
section
variable {P : Program} {n : Nat} {l : List (Nat × Value)} {own : List (Nat × Obj)} {ro : List Snap} {ty t t' : TypeId} {x y : Operand}
theorem v_ieq {td : TypeDesc} {v : Value} {b : Bool} (ht : P.underlying t = some td) (hi : (match td with | .interface _ => true | _ => false) = true) (hx : ev l x = some v) (hv : isIface v b) : OpV P n l own ro (.binOp .eql t x (.const .nilIface) t') ty (.bool (!b)) := by
  intro A w o ha _ ho _
  have e : A.eval (.const .nilIface) = .nilIface := rfl
  cases td <;> simp at hi
  rcases hv with ⟨rfl, rfl⟩ | ⟨⟨d, u, rfl⟩, rfl⟩
  · have h : ∀ d : Nat, (Op.equalIn (d + 1) t .nilIface .nilIface).run P w = .ok true w := fun d => by simp [Op.equalIn, run_underlying ht]
    have h2 : (Op.equal t .nilIface .nilIface).run P w = .ok true w := h 9999
    simp [execOp, ho, ha.eval hx, e, eqGuard, binOp, h2]
  · have h : ∀ q : Nat, (Op.equalIn (q + 1) t (.iface d u) .nilIface).run P w = .ok false w := fun q => by simp [Op.equalIn, run_underlying ht]
    have h2 : (Op.equal t (.iface d u) .nilIface).run P w = .ok false w := h 9999
    simp [execOp, ho, ha.eval hx, e, eqGuard, binOp, h2]
end
end Go.PK

namespace Go.PK
open Go Go.RowKit
end Go.PK

namespace Go.PK
open Go Go.RowKit
section
variable {P : Program} {n : Nat} {l : List (Nat × Value)} {own : List (Nat × Obj)} {ro : List Snap} {lops : List Oper} {Q : Exit → Act → World → Prop} {K : Act → World → Prop}
  {rest : List (Option Bool × Nat)} {k : Option Bool} {i d j dj : Nat} {want : Bool} {op : Op} {ty : TypeId} {pos : String} {af : Array Edge}
theorem x_valg (ho : lops[i]? = some ⟨some d, op, ty, pos, af, some (j, want)⟩) (hj : (lops[j]?).bind (·.dst) = some dj) (hb : l.lookup dj = some (.bool want)) (hk : k.getD true = true) (hd : decide (d < n) = true) {v : Value} (hv : OpV P n l own ro op ty v)
    (h : WX P lops.toArray Q K rest n ((d, v) :: l) own ro) : WX P lops.toArray Q K ((k, i) :: rest) n l own ro := x_run ho (go_some rfl hj hb) rfl hk hd hv h
theorem x_boolg (ho : lops[i]? = some ⟨some d, op, ty, pos, af, some (j, want)⟩) (hj : (lops[j]?).bind (·.dst) = some dj) (hb : l.lookup dj = some (.bool want)) (hk : k.getD true = true) (hd : decide (d < n) = true) {b : Bool} (hv : OpV P n l own ro op ty (.bool b))
    (h : ∀ c, c = b → WX P lops.toArray Q K rest n ((d, .bool c) :: l) own ro) : WX P lops.toArray Q K ((k, i) :: rest) n l own ro := x_run ho (go_some rfl hj hb) rfl hk hd hv (h b rfl)
theorem x_callvg {f : FuncId} {fn : Func} {xs : Array Operand} {tys : Array TypeId} {vs : List Value} (ho : lops[i]? = some ⟨some d, .call ⟨.value (.func f), xs, tys⟩, ty, pos, af, some (j, want)⟩) (hj : (lops[j]?).bind (·.dst) = some dj) (hb : l.lookup dj = some (.bool want)) (hk : k.getD true = true) (hd : decide (d < n) = true)
    (hf : P.funcs[f]? = some fn) (hbody : (!(fn.name == "runtime.NumGoroutine") && fn.body.isSome) = true) (hx : evs l xs.toList = some vs) {v : Value}
    (hc : ∀ w, Mem w own ro → Calls P f vs.toArray w fun e w' => e = .returned v ∧ Later w w')
    (h : WX P lops.toArray Q K rest n ((d, v) :: l) own ro) : WX P lops.toArray Q K ((k, i) :: rest) n l own ro :=
  x_callv_core (fst := #[]) (cap := #[]) ho (go_some rfl hj hb) rfl rfl hk hd rfl hf hbody hx (by simpa using hc) h
theorem x_turng {τ : Type} {f : FuncId} {fn : Func} {xs : Array Operand} {tys : Array TypeId} {vs : List Value} {v : Value} (R : τ → Prop) (O : τ → List (Nat × Obj)) (ho : lops[i]? = some ⟨some d, .call ⟨.value (.func f), xs, tys⟩, ty, pos, af, some (j, want)⟩) (hj : (lops[j]?).bind (·.dst) = some dj) (hb : l.lookup dj = some (.bool want)) (hd : decide (d < n) = true)
    (hf : P.funcs[f]? = some fn) (hbody : (!(fn.name == "runtime.NumGoroutine") && fn.body.isSome) = true) (hx : evs l xs.toList = some vs)
    (hc : ∀ w, Mem w own ro → Calls P f vs.toArray w fun e w' => e = .returned v ∧ ∃ x, R x ∧ Mem w' (O x) ro)
    (h : ∀ x, R x → WX P lops.toArray Q K rest n ((d, v) :: l) (O x) ro) : WX P lops.toArray Q K ((none, i) :: rest) n l own ro := by
  intro a w ha hw
  have hd' : d < n := of_decide_eq_true hd
  have hw1 := go_some (lops := lops) (n := n) (l := l) (o := ⟨some d, .call ⟨.value (.func f), xs, tys⟩, ty, pos, af, some (j, want)⟩) rfl hj hb a ha
  simp only [wpX, List.getElem?_toArray, ho]
  intro w' hl
  rw [if_pos hw1]
  unfold Oper.wp
  have hc' : ∀ w, Mem w own ro → Calls P f ((#[] : Array Value) ++ vs.toArray ++ #[]) w fun e w' => e = .returned v ∧ ∃ x, R x ∧ Mem w' (O x) ro := by simpa using hc
  rw [run_callv (fst := #[]) (cap := #[]) rfl ha rfl hf hbody hx]
  refine Calls.mono (hc' w' (hw.later hl)) fun e w2 he => ?_
  obtain ⟨rfl, x, hr, hm⟩ := he
  exact h x hr _ w2 (ha.put v hd') hm
end
end Go.PK

namespace Go.PK
open Go Go.RowKit
section
variable {P : Program} {n : Nat} {l : List (Nat × Value)} {own : List (Nat × Obj)} {ro : List Snap} {lops : List Oper} {Q : Exit → Act → World → Prop} {K : Act → World → Prop}
  {rest : List (Option Bool × Nat)} {k : Option Bool} {i d : Nat} {op : Op} {ty : TypeId} {pos : String} {af : Array Edge} {x y z' : Operand} {t : TypeId}
end
end Go.PK

namespace Go.PK
open Go Go.RowKit
end Go.PK

namespace Go.PK
open Go Go.RowKit
theorem Mem.join2 {w1 w2 : World} {own1 own2 : List (Nat × Obj)} {ro : List Snap} (h1 : Mem w1 own1 ro) (h2 : Mem w2 own2 [(w1, fun _ => True)]) : Mem w2 (own2 ++ own1) ro where
  own_at := fun p hp => by
    rcases List.mem_append.1 hp with hp | hp
    · exact h2.own_at p hp
    · exact (h2.ro_at _ (.head _) p.1 trivial (h1.lt hp)).trans (h1.own_at p hp)
  own_nd := by
    rw [List.map_append, List.nodup_append]
    refine ⟨h2.own_nd, h1.own_nd, fun a ha b hb e => ?_⟩
    obtain ⟨p, hp, rfl⟩ := List.mem_map.1 ha
    obtain ⟨q, hq, rfl⟩ := List.mem_map.1 hb
    have a1 := h2.apart p hp _ (.head _) trivial
    have a2 := h1.lt hq
    simp only at a1; omega
  ro_st := (h1.join h2).ro_st
  ro_at := (h1.join h2).ro_at
  apart := fun p hp s hs hd => by
    rcases List.mem_append.1 hp with hp | hp
    · exact (h1.join h2).apart p hp s hs hd
    · exact h1.apart p hp s hs hd
end Go.PK

namespace Go.PK
open Go Go.RowKit
end Go.PK

namespace Go.PK
open Go Go.RowKit
end Go.PK

namespace Go.PK
open Go Go.RowKit
end Go.PK

namespace Go.PK
open Go Go.RowKit
theorem bl_inj {a b : ByteArray} (h : bl a = bl b) : a = b := by rw [← bl_str a, h, bl_str]
end Go.PK

namespace Go.PK
open Go Go.RowKit
section
variable (rd : ByteArray → Int × Int)
end
end Go.PK

namespace Go.PK
open Go Go.RowKit
section
variable {P : Program} {n : Nat} {l : List (Nat × Value)} {own : List (Nat × Obj)} {ro : List Snap} {ty t t' : TypeId} {x y : Operand} {k k' : IntKind} {a b c : Int}
theorem v_convE {td : TypeDesc} (hs : P.underlying t = some td) (hd : P.underlying t' = some (.int k')) (hx : ev l x = some (.int k a)) (hc : k'.wrap a = c) : OpV P n l own ro (.convert t t' x) ty (.int k' c) := hc ▸ v_conv hs hd hx
theorem v_addE (hx : ev l x = some (.int k a)) (hy : ev l y = some (.int k b)) (hc : k.wrap (a + b) = c) : OpV P n l own ro (.binOp .add t x y t') ty (.int k c) := hc ▸ v_add hx hy
theorem v_quoE (hx : ev l x = some (.int k a)) (hy : ev l y = some (.int k b)) (h0 : b ≠ 0) (hc : k.wrap (a.tdiv b) = c) : OpV P n l own ro (.binOp .quo t x y t') ty (.int k c) := hc ▸ v_quo hx hy h0
end
end Go.PK

namespace Go.PK
open Go Go.RowKit Go.Maps
def pairC (l : List (ByteArray × ByteArray)) : List Value := l.flatMap fun p => [Value.string p.1, Value.string p.2]
def tabC : List Value := pairC rowsT
theorem pairC_at : ∀ {l : List (ByteArray × ByteArray)} {k : Nat} (h : k < l.length), (pairC l)[k * 2]? = some (.string l[k].1) ∧ (pairC l)[k * 2 + 1]? = some (.string l[k].2)
  | p :: l, 0, _ => ⟨rfl, rfl⟩
  | p :: l, k + 1, h => by
    have := pairC_at (l := l) (k := k) (by simpa using h)
    rw [show (k + 1) * 2 = k * 2 + 2 by omega]
    exact this
theorem rowsT_len : rowsT.length = 31 := by decide +kernel
theorem rowsT_small : ∀ p ∈ rowsT, p.2.size ≤ 100 ∧ p.1.size ≤ 2 := by decide +kernel
theorem tab_find : ∀ (l : List (ByteArray × ByteArray)) (c k : Nat) (hk : k < l.length), (∀ i (hi : i < l.length), i < k → c ∉ runes l[i].2) → c ∈ runes l[k].2 → ((tabOf l).find? (fun p => p.1 == c)).map (·.2) = some l[k].1
  | p :: l, c, 0, hk, _, hin => by
    have h1 : (((runes p.2).map fun d => (d, p.1)).find? (fun q => q.1 == c)) = some (c, p.1) := by
      have key : ∀ (r : List Nat), c ∈ r → ((r.map fun d => (d, p.1)).find? (fun q => q.1 == c)) = some (c, p.1) := by
        intro r
        induction r with
        | nil => intro h; cases h
        | cons d r ih =>
          intro h
          rw [List.map_cons, List.find?_cons]
          by_cases hd : d = c
          · subst hd; simp
          · have : (d == c) = false := by simpa using hd
            rw [this]
            exact ih ((List.mem_cons.1 h).resolve_left fun e => hd e.symm)
      exact key _ hin
    show ((((runes p.2).map fun d => (d, p.1)) ++ tabOf l).find? _).map _ = _
    rw [List.find?_append, h1]; rfl
  | p :: l, c, k + 1, hk, hno, hin => by
    have h1 : (((runes p.2).map fun d => (d, p.1)).find? (fun q => q.1 == c)) = none := by
      rw [List.find?_eq_none]
      intro q hq
      obtain ⟨d, hd, rfl⟩ := List.mem_map.1 hq
      have := hno 0 (by simp) (by omega)
      intro e
      have e : d = c := by simpa using e
      exact this (e ▸ hd)
    show ((((runes p.2).map fun d => (d, p.1)) ++ tabOf l).find? _).map _ = _
    rw [List.find?_append, h1]
    exact tab_find l c k (by simpa using hk) (fun i hi hik => hno (i + 1) (by simpa using hi) (by omega)) hin
theorem lookR_at {c k : Nat} (hk : k < rowsT.length) (hno : ∀ i (hi : i < rowsT.length), i < k → c ∉ runes rowsT[i].2) (hin : c ∈ runes rowsT[k].2) : lookR c = some rowsT[k].1 := tab_find rowsT c k hk hno hin
theorem lookR_no {c : Nat} (hno : ∀ i (hi : i < rowsT.length), c ∉ runes rowsT[i].2) : lookR c = none := by
  unfold lookR
  have : tabR.find? (fun p => p.1 == c) = none := by
    rw [List.find?_eq_none]
    intro q hq e
    have e : q.1 = c := by simpa using e
    obtain ⟨p, hp, hq⟩ := List.mem_flatMap.1 hq
    obtain ⟨d, hd, rfl⟩ := List.mem_map.1 hq
    obtain ⟨i, hi, rfl⟩ := List.getElem_of_mem hp
    exact hno i hi (e ▸ hd)
  rw [this]; rfl
end Go.PK

namespace Go.PK
open Go Go.RowKit
section
variable {P : Program} {n : Nat} {l : List (Nat × Value)} {own : List (Nat × Obj)} {ro : List Snap} {lops : List Oper} {Q : Exit → Act → World → Prop} {K : Act → World → Prop}
  {rest : List (Option Bool × Nat)} {k : Option Bool} {i d : Nat} {ty t t' : TypeId} {pos : String} {af : Array Edge} {x y : Operand}
theorem v_sliceData {a : Addr} {m c : Nat} (hx : ev l x = some (.slice (some a) m c)) (hc : c ≠ 0) : OpV P n l own ro (.call ⟨.builtin .unsafeSliceData, #[x], #[t]⟩) ty (.pointer (some a)) := by
  intro A w o ha hw ho hty
  have := Lib.run_unsafeSliceData_row (P := P) w #[t] o.type a m c hc
  simp [execOp, ho, resolve, invoke, builtin, ha.eval hx, this]
theorem x_unsafeStr {e : TypeId} {b : Nat} {cs : List Value} {bs : List UInt8} (l1 : List (Nat × Obj)) {l2 : List (Nat × Obj)} (ho : lops[i]? = some ⟨some d, .call ⟨.builtin .unsafeString, #[x, y], #[t, t']⟩, ty, pos, af, none⟩) (hd : decide (d < n) = true)
    (hx : ev l x = some (.pointer (some ⟨b, 0, none⟩))) (hy : ev l y = some (.int .i64 (bs.length : Nat))) (hp : P.underlying t = some (.pointer e)) (hc1 : P.cellsOf e = 1) (hown : own = l1 ++ (b, .cells cs.toArray e (0, 0)) :: l2) (hb0 : bs ≠ []) (hbs : cs.take bs.length = byC bs) (h63 : bs.length ≤ 9223372036854775807)
    (h : WX P lops.toArray Q K rest n ((d, .string ⟨bs.toArray⟩) :: l) (l1 ++ (b, .cells cs.toArray e (0, bs.length)) :: l2) ro) : WX P lops.toArray Q K ((none, i) :: rest) n l own ro := by
  subst hown
  intro a w ha hw
  have hd' : d < n := of_decide_eq_true hd
  have hw1 := go_none (lops := lops) (n := n) (l := l) (o := ⟨some d, .call ⟨.builtin .unsafeString, #[x, y], #[t, t']⟩, ty, pos, af, none⟩) rfl a ha
  simp only [wpX, List.getElem?_toArray, ho]
  intro w' hl
  rw [if_pos hw1]
  have hM := hw.later hl
  have hg : w'.heap[b]? = some (.cells cs.toArray e (0, 0)) := hM.own_at (b, _) (by simp)
  have hsh : w'.shape? b = some (e, cs.length) := by simp [World.shape?, hg]
  have hlen : bs.length ≤ cs.length := by
    have := congrArg List.length hbs
    rw [byC_len, List.length_take] at this
    omega
  have hrun := Lib.run_unsafeString_row (P := P) w' t t' ty e hp hc1 b cs.length hsh bs hb0 hlen h63 (fun j c hj => by
    have hadd : (⟨b, 0, none⟩ : Addr).add j = ⟨b, j, none⟩ := by unfold Addr.add; split <;> simp_all
    rw [hadd, cell_of_row w' b j cs.toArray e (0, 0) hg]
    have hjl : j < bs.length := (List.getElem?_eq_some_iff.1 hj).1
    rw [List.getElem?_toArray, ← List.getElem?_take_of_lt hjl, hbs, byC_at hjl]
    rw [List.getElem?_eq_getElem hjl] at hj
    injection hj with hj
    rw [hj])
  have hT : Turned w' (w'.freeze ⟨b, 0, none⟩ bs.length) b (.cells cs.toArray e (0, bs.length)) := by
    have hne : ¬bs.length = 0 := fun e => hb0 (List.eq_nil_of_length_eq_zero e)
    unfold World.freeze
    rw [if_neg (by simpa using hne)]
    refine ⟨rfl, rfl, rfl, by simp, ?_, fun q hq => ?_⟩
    · show (w'.heap.modify b _)[b]? = _
      rw [Array.getElem?_modify, if_pos rfl, hg]
      simp
    · show (w'.heap.modify b _)[q]? = _
      rw [Array.getElem?_modify, if_neg (fun e => hq e.symm)]
  have hr2 : (execOp a.eval ⟨some d, .call ⟨.builtin .unsafeString, #[x, y], #[t, t']⟩, ty, pos, af, none⟩).run P w' = .ok (.value (.string ⟨bs.toArray⟩)) (w'.freeze ⟨b, 0, none⟩ bs.length) := by
    simp [execOp, resolve, invoke, builtin, ha.eval hx, ha.eval hy, hrun]
  unfold Oper.wp
  rw [hr2]
  exact h _ _ (ha.put _ hd') (hM.turn hT)
end
end Go.PK

namespace Go.PK
open Go Go.RowKit Go.Maps
def rowsS : List ByteArray := rowsT.map fun p => p.1 ++ spcB ++ p.2
theorem rowsS_at {k : Nat} (h : k < rowsT.length) : rowsS[k]? = some (rowsT[k].1 ++ spcB ++ rowsT[k].2) := by unfold rowsS; rw [List.getElem?_map, List.getElem?_eq_getElem h]; rfl
theorem rowsS_cut : ∀ p ∈ rowsT, Lib.cut (p.1 ++ spcB ++ p.2).data.toList [32] = (p.1.data.toList, p.2.data.toList, true) := by decide +kernel
theorem rowsS_small : ∀ p ∈ rowsT, (p.1 ++ spcB ++ p.2).size ≤ 1000 := by decide +kernel
theorem tabOf_succ {k : Nat} (h : k < rowsT.length) : tabOf (rowsT.take (k + 1)) = tabOf (rowsT.take k) ++ (runes rowsT[k].2).map fun c => (c, rowsT[k].1) := by
  unfold tabOf
  rw [List.take_succ_eq_append_getElem h, List.flatMap_append]
  simp
theorem ba_toList (s : ByteArray) : (⟨s.data.toList.toArray⟩ : ByteArray) = s := by cases s; simp
end Go.PK

namespace Go.PK
open Go Go.RowKit
theorem rowsIn_of {n : Nat} {P : Program} {row : String} {args : Array Value} {w : World} {R : Value → World → Prop} (h : Rows P row args w R) : RowsIn Fence.wide n P row args w R :=
  fun c cs _ => let ⟨v, w', r, s⟩ := h c cs; ⟨v, w', r, stepsIn_wide.2 s⟩
theorem oper_in {lr n : Nat} {P : Program} {o : Oper} {a : Act} {w : World} {K : Act → World → Prop} {Q : Exit → Act → World → Prop} (hd : ∀ c, o.op ≠ .defer c) (h : o.wp P a w K Q) : o.wpIn (Fence.wide.inRound lr) n P a w K Q := by
  refine ⟨fun _ _ => trivial, ?_⟩
  rw [Oper.semAt_eq _ _ _ hd]
  unfold Oper.wp at h
  cases hr : (execOp a.eval o).run P w with
  | ok x w' =>
    rw [hr] at h
    cases x with
    | value v => exact h
    | skip => exact h
    | defer d => exact h
    | enter f args => exact ⟨fun h => by simp [Fence.wide] at h, callsIn_wide.2 h⟩
    | row row args => exact ⟨fun h => by simp [Fence.wide] at h, rowsIn_of h⟩
    | _ => exact h.elim
  | halt x w' =>
    rw [hr] at h
    cases x <;> first | exact h | exact h.elim
section
variable {P : Program}
end
section
variable {P : Program} {oF : List (Nat × Obj)} {rF : List Snap}
end
theorem FH.none {n : Nat} {a : Act} (h1 : a.tmps.size = n) (h2 : a.defers = []) : FH n [] a := ⟨h1, h2, fun s v h => by simp at h⟩
theorem FH.add {n d : Nat} {l : List (Nat × Value)} {a : Act} {v : Value} (h : FH n l a) (hv : a.tmps[d]? = some v) : FH n ((d, v) :: l) a := ⟨h.sz, h.df, fun s u hu => by
  simp only [List.lookup_cons] at hu
  by_cases hs : s = d
  · subst hs; simp at hu; subst hu; exact hv
  · have : (s == d) = false := by simpa using hs
    simp only [this] at hu
    exact h.at_ s u hu⟩
theorem Mem.three {W : World} {b1 b2 b3 : Nat} {o1 o2 o3 : Obj} (h1 : W.heap[b1]? = some o1) (h2 : W.heap[b2]? = some o2) (h3 : W.heap[b3]? = some o3) (n1 : b1 ≠ b2) (n2 : b1 ≠ b3) (n3 : b2 ≠ b3) :
    Mem W [(b1, o1), (b2, o2), (b3, o3)] [(W, notOwn [(b1, o1), (b2, o2), (b3, o3)])] := by
  have h : Mem W [(b1, o1), (b2, o2), (b3, o3)] [] :=
    ⟨(fun p hp => by simp at hp; rcases hp with rfl | rfl | rfl <;> assumption), (by simp; exact ⟨⟨n1, n2⟩, n3⟩), (fun s hs => by cases hs), (fun s hs => by cases hs), (fun p hp s hs => by cases hs)⟩
  exact h.snap
end Go.PK

namespace Go.PK
open Go Go.RowKit
section
variable {P : Program} {m : Nat}
theorem oper_wide {n : Nat} {o : Oper} {a : Act} {w : World} {K : Act → World → Prop} {Q : Exit → Act → World → Prop} (hd : ∀ c, o.op ≠ .defer c) (h : o.wp P a w K Q) : o.wpIn Fence.wide n P a w K Q := by
  refine ⟨fun _ _ => trivial, ?_⟩
  rw [Oper.semAt_eq _ _ _ hd]
  unfold Oper.wp at h
  cases hr : (execOp a.eval o).run P w with
  | ok x w' =>
    rw [hr] at h
    cases x with
    | value v => exact h
    | skip => exact h
    | defer d => exact h
    | enter f args => exact ⟨fun h => by simp [Fence.wide] at h, callsIn_wide.2 h⟩
    | row row args => exact ⟨fun h => by simp [Fence.wide] at h, fun c cs _ => let ⟨v, w', r, s⟩ := h c cs; ⟨v, w', r, stepsIn_wide.2 s⟩⟩
    | _ => exact h.elim
  | halt x w' =>
    rw [hr] at h
    cases x <;> first | exact h | exact h.elim
structure Lets (F : Fence) (m : Nat) (P : Program) : Prop where
  fn : ∀ f, F.fn f
  op : ∀ {o : Oper} {a : Act} {w : World} {K : Act → World → Prop} {Q : Exit → Act → World → Prop}, (∀ c, o.op ≠ .defer c) → o.wp P a w K Q → o.wpIn F m P a w K Q
theorem lets_wide : Lets Fence.wide m P := ⟨fun _ => trivial, fun hd h => oper_wide hd h⟩
theorem lets_round (lr : Nat) : Lets (Fence.wide.inRound lr) m P := ⟨fun _ => trivial, fun hd h => oper_in hd h⟩
theorem no_defer {lops : List Oper} (hd : lops.all (fun o => match o.op with | .defer _ => false | _ => true) = true) {o : Oper} (ho : o ∈ lops) : ∀ c, o.op ≠ .defer c := fun c e => by
  have := List.all_eq_true.1 hd o ho
  rw [e] at this; cases this
theorem listIn_of_X {F : Fence} (hF : Lets F m P) {lops : List Oper} {Q : Exit → Act → World → Prop} {K : Act → World → Prop} (hd : lops.all (fun o => match o.op with | .defer _ => false | _ => true) = true) {j : Nat} (hj : j ≤ lops.length)
    (hK : ∀ a w, K a w → wpListIn F m P lops.toArray Q (lops.drop j) a w) : ∀ (k s : Nat) (a : Act) (w : World), s + k = j → wpX P lops.toArray Q K ((List.range' s k).map fun i => (none, i)) a w → wpListIn F m P lops.toArray Q (lops.drop s) a w
  | 0, s, a, w, hs, h => by
    obtain rfl : s = j := by omega
    exact hK a w (h w (Later.refl _))
  | k + 1, s, a, w, hs, h => by
    have hlt : s < lops.length := by omega
    rw [List.drop_eq_getElem_cons hlt]
    rw [List.range'_succ, List.map_cons] at h
    simp only [wpX, List.getElem?_toArray, List.getElem?_eq_getElem hlt] at h
    have h3 := h w (Later.refl _)
    refine wpListIn_step fun K' hK' => ?_
    split <;> rename_i hw
    · rw [if_pos hw] at h3
      exact hF.op (no_defer hd (List.getElem_mem hlt)) (Oper.wp_mono (fun a' w' hk' => hK' _ _ (listIn_of_X hF hd hj hK k (s + 1) a' w' (by omega) hk')) h3)
    · rw [if_neg hw] at h3
      exact ⟨fun f _ => hF.fn f, hK' _ _ (listIn_of_X hF hd hj hK k (s + 1) _ w (by omega) h3)⟩
end
section
variable {P : Program} {m n : Nat} {l : List (Nat × Value)} {own : List (Nat × Obj)} {ro : List Snap} {F : Fence} {Q : Exit → Act → World → Prop}
def WI (F : Fence) (m : Nat) (P : Program) (c : Code) (Q : Exit → Act → World → Prop) (n : Nat) (l : List (Nat × Value)) (own : List (Nat × Obj)) (ro : List Snap) : Prop :=
  ∀ a w, FH n l a → Mem w own ro → c.wpIn F m P Q a w
theorem wi_block {id : Nat} {c : Code} (h : WI F m P c (Exit.inBlock id Q) n l own ro) : WI F m P (.block id c) Q n l own ro := fun a w ha hw => wpIn_block (h a w ha hw)
theorem t_k {K : Act → World → Prop} (h : S K n l own ro) : S (Exit.then K Q .normal) n l own ro := h
theorem ri_text (hF : Lets F m P) {id : Nat} {lops : List Oper} (hd : lops.all (fun o => match o.op with | .defer _ => false | _ => true) = true)
    (h : WX P lops.toArray Q (fun a w => Q .normal a w) (tailFrom 0 lops.length) n l own ro) : WI F m P (.region id lops.toArray false) Q n l own ro := fun a w ha hw =>
  wpIn_region_lit (by
    have := listIn_of_X hF (K := fun a w => Q .normal a w) hd (Nat.le_refl _) (fun a w hk => by rw [List.drop_length]; exact hk) lops.length 0 a w (by omega) (h a w ha hw)
    rwa [List.drop_zero] at this)
theorem rg_yield {id : Nat} {lops : List Oper} (j m : Nat) (hd : lops.all (fun o => match o.op with | .defer _ => false | _ => true) = true) (hj : decide (j ≤ lops.length) = true)
    (h : WX P lops.toArray Q (fun a w => wpListIn Fence.wide m P lops.toArray Q (lops.drop j) a w) (tailFrom 0 j) n l own ro) : W P (.region id lops.toArray false) Q n l own ro := fun a w ha hw =>
  (wpIn_wide (n := m)).1 (wpIn_region_lit (by
    have := listIn_of_X (lets_wide (m := m) (P := P)) hd (of_decide_eq_true hj) (fun a w hk => hk) j 0 a w (by omega) (h a w ha hw)
    rwa [List.drop_zero] at this))
theorem s_yield {lops : List Oper} {j d t L : Nat} {xs : Array Operand} {tys : Array TypeId} {ty : TypeId} {pos : String} {af : Array Edge} {vs : List Value} {v : Value} {τ : Type} (I : τ → Prop) (O : τ → List (Nat × Obj))
    (ho : lops[j]? = some ⟨some d, .call ⟨.value (.tmp t), xs, tys⟩, ty, pos, af, none⟩) (hd : decide (d < n) = true) (hf : l.lookup t = some (.func (.yield L) #[] #[])) (hx : evs l xs.toList = some vs) (hm : decide (1 ≤ m) = true)
    (hY : ∀ w, Mem w own ro → YieldAt Fence.wide (m - 1) P L vs.toArray w fun e w' => e = .returned v ∧ ∃ x, I x ∧ Mem w' (O x) ro)
    (h : ∀ x, I x → S (fun a w => wpListIn Fence.wide m P lops.toArray Q (lops.drop (j + 1)) a w) n ((d, v) :: l) (O x) ro) : S (fun a w => wpListIn Fence.wide m P lops.toArray Q (lops.drop j) a w) n l own ro := by
  intro a w ha hw
  have hlt : j < lops.length := (List.getElem?_eq_some_iff.1 ho).1
  have he : lops[j] = ⟨some d, .call ⟨.value (.tmp t), xs, tys⟩, ty, pos, af, none⟩ := by
    rw [List.getElem?_eq_getElem hlt] at ho; exact Option.some.inj ho
  obtain ⟨fn, tmps, assign, body, hy, hR⟩ := hY w hw
  show wpListIn Fence.wide m P lops.toArray Q (lops.drop j) a w
  rw [List.drop_eq_getElem_cons hlt, he]
  refine wpListIn_plain rfl fun K hK => ?_
  refine ⟨fun _ _ => trivial, ?_⟩
  rw [Oper.semAt_eq _ _ _ (fun c e => by cases e)]
  have hev := ha.evals hx
  have hrun : (execOp a.eval ⟨some d, .call ⟨.value (.tmp t), xs, tys⟩, ty, pos, af, none⟩).run P w = .ok (.round L fn tmps assign body) w := by
    have h1 : (xs.map a.eval) = vs.toArray := by
      apply Array.ext'
      rw [Array.toList_map, hev]
    have hft : a.tmps[t]?.getD undef = .func (.yield L) #[] #[] := by rw [ha.at_ t _ hf]; rfl
    simp [execOp, resolve, hft, h1, go_sem, invoke, hy]
  rw [hrun]
  refine ⟨fun _ => of_decide_eq_true hm, ?_⟩
  refine hR.mono ?_
  rintro e w' ⟨rfl, x, hI, hm'⟩
  exact hK _ _ (h x hI _ w' (ha.put v (of_decide_eq_true hd)) hm')
theorem s_rest {lops : List Oper} {j : Nat} (hd : lops.all (fun o => match o.op with | .defer _ => false | _ => true) = true) (hj : decide (j ≤ lops.length) = true)
    (h : WX P lops.toArray Q (fun a w => Q .normal a w) (tailFrom j lops.length) n l own ro) : S (fun a w => wpListIn Fence.wide m P lops.toArray Q (lops.drop j) a w) n l own ro := fun a w ha hw =>
  listIn_of_X lets_wide (K := fun a w => Q .normal a w) hd (Nat.le_refl _) (fun a w hk => by rw [List.drop_length]; exact hk) (lops.length - j) j a w (by have := of_decide_eq_true hj; omega) (h a w ha hw)
end
def recL (st : LoopState) (fn : FuncId) (tmps : Array Value) (ps : Array Tmp) (assign body : Code) (D : Nat) : Loop := { state := st, pending := none, fn, tmps, params := ps, assign, body, defers := D }
theorem turned_put {w : World} {g : Nat} {o o' : Obj} (h : w.heap[g]? = some o) : Turned w (w.putObj g o') g o' := turned_obj h
section
variable {P : Program} {m n : Nat} {l : List (Nat × Value)} {own rest : List (Nat × Obj)} {ro : List Snap} {Q : Exit → Act → World → Prop} {R : Ending → World → Prop} {L : Nat} {fn : FuncId} {tmps : Array Value} {assign body : Code} {D : Nat}
theorem s_begin {st : LoopState} {ps : Array Tmp} (hst : st = .ready) (h : WI (Fence.wide.inRound L) m P body (roundPost P L R) n l ((L, .loop (recL .busy fn tmps ps assign body D)) :: rest) ro) :
    S (fun a w => ∃ w2, (Instr.beginRound L).run P w = .ok () w2 ∧ body.wpIn (Fence.wide.inRound L) m P (roundPost P L R) a w2) n l ((L, .loop (recL st fn tmps ps assign body D)) :: rest) ro := by
  subst hst
  intro a w ha hw
  have hl := hw.own_at _ (.head _)
  exact ⟨_, run_beginRound hl rfl, h a _ ha (Mem.turn (l1 := []) hw (turned_put hl))⟩
theorem s_round {ps : Array Tmp} (h : ∀ w', Mem w' ((L, .loop (recL .ready fn tmps ps assign body D)) :: rest) ro → R (.returned (.bool true)) w') :
    S (roundPost P L R .normal) n l ((L, .loop (recL .busy fn tmps ps assign body D)) :: rest) ro := by
  intro a w ha hw
  have hl := hw.own_at _ (.head _)
  exact ⟨_, _, run_endRound none hl, h _ (Mem.turn (l1 := []) hw (turned_put hl))⟩
def SD (D : Nat) (K : Act → World → Prop) (n : Nat) (l : List (Nat × Value)) (own : List (Nat × Obj)) (ro : List Snap) : Prop :=
  ∀ a w, FH n l a → Mem w own ro → K { a with defers := [{ target := .collected D, args := #[] }] } w
theorem w_range {g : Operand} {ps : Array Tmp} {gf : Nat} {lb : Array Value} {τ : Type} (I : τ → Prop) (O : τ → List (Nat × Obj)) (hg : ev l g = some (.func (.func gf) #[] lb)) (eg : ∀ args w, (callFunc gf args).run P w = .ok (.enter gf args) w)
    (hc : ∀ (L D : Nat) (fn : FuncId) (tmps : Array Value) (w1 : World), FH n l ⟨tmps, []⟩ → Mem w1 ((L, .loop (recL .ready fn tmps ps assign body D)) :: (D, .deferred (some [])) :: own) ro →
      Calls P gf (#[.func (.yield L) #[] #[]] ++ lb) w1 fun e w2 => (∃ v, e = .returned v) ∧ ∃ x, I x ∧ Mem w2 ((L, .loop (recL .ready fn tmps ps assign body D)) :: (D, .deferred (some [])) :: O x) ro)
    (h : ∀ D x, I x → SD D (Q .normal) n l ((D, .deferred (some [])) :: O x) ro) : W P (.rangeFunc g ps assign body) Q n l own ro := by
  intro a w ha hw
  refine (wpIn_wide (n := 1)).1 (wpIn_rangeFunc ?_)
  intro fn _
  have hgv := ha.eval hg
  have hdf : a.defers = [] := ha.df
  have h1 : Mem (w.alloc (.deferred (some []))) ((w.heap.size, .deferred (some [])) :: own) ro := hw.new _
  have h2 : Mem ((w.alloc (.deferred (some []))).alloc (.loop (recL .ready fn a.tmps ps assign body w.heap.size))) ((w.heap.size + 1, .loop (recL .ready fn a.tmps ps assign body w.heap.size)) :: (w.heap.size, .deferred (some [])) :: own) ro := by
    have h3 := h1.new (.loop (recL .ready fn a.tmps ps assign body w.heap.size))
    rwa [World.size_alloc] at h3
  have hfh : FH n l ⟨a.tmps, []⟩ := ⟨ha.sz, rfl, ha.at_⟩
  have hC := hc _ _ fn a.tmps _ hfh h2
  have hC2 : CallsIn Fence.wide 0 P gf (#[.func (.yield (w.heap.size + 1)) #[] #[]] ++ lb) ((w.alloc (.deferred (some []))).alloc (.loop (recL .ready fn a.tmps ps assign body w.heap.size))) (rangePost Fence.wide 1 P (w.heap.size + 1) Q { a with defers := [{ target := .collected w.heap.size, args := #[] }] ++ a.defers }) := by
    refine callsIn_wide.2 (Calls.mono hC ?_)
    rintro e w2 ⟨⟨v, rfl⟩, x, hx, hm⟩
    have hl := hm.own_at _ (.head _)
    refine ⟨none, _, run_endLoop hl (by simp [recL]), ?_⟩
    have h4 := Mem.turn (l1 := []) hm (turned_put (o' := .loop { recL .ready fn a.tmps ps assign body w.heap.size with state := .exhausted }) hl)
    have h5 := h _ x hx a _ ha (h4.less (List.sublist_cons_self _ _) (fun _ h => h))
    rw [hdf]
    exact h5
  clear hC h2 h1
  have hres : (resolve a.eval (rangeCall g (w.heap.size + 1)) 0).run P ((w.alloc (.deferred (some []))).alloc (.loop (recL .ready fn a.tmps ps assign body w.heap.size))) = .ok { target := .fn (.func gf) lb, args := #[.func (.yield (w.heap.size + 1)) #[] #[]] } ((w.alloc (.deferred (some []))).alloc (.loop (recL .ready fn a.tmps ps assign body w.heap.size))) := by
    simp only [resolve, hgv]
    simp [go_sem]
  have hinv : ∀ W : World, (invoke (.fn (.func gf) lb) #[.func (.yield (w.heap.size + 1)) #[] #[]]).run P W = .ok (.enter gf (#[.func (.yield (w.heap.size + 1)) #[] #[]] ++ lb)) W := fun W => by simp [invoke, go_sem, eg]
  exact ⟨w.heap.size + 1, [{ target := .collected w.heap.size, args := #[] }], _, _, _, gf, _, _, run_enterLoop_outer _ _ _ _ _, hres, fun _ _ => trivial, hinv _, fun h => by simp [Fence.wide] at h, hC2⟩
theorem enterM {f : FuncId} {fd : Func} {c : Code} {vs : List Value} {w : World} (m : Nat) (hf : P.funcs[f]? = some fd) (hb : fd.body = some c) (hn : fd.ntmps = n) (hv : decide (vs.length ≤ n) = true)
    (h : W P c (bodyPostM Fence.wide m P fd R) n (slots 0 vs) [] [(w, fun _ => True)]) : Calls P f vs.toArray w R := by
  have hv' := of_decide_eq_true hv
  refine callsIn_wide.1 (callsIn_of_wp_marks hf hb trivial ((wpIn_wide (n := m)).2 (h _ w ⟨by simp [hn]; omega, rfl, fun s v hs => ?_⟩ (Mem.init w))) rfl)
  obtain ⟨_, h2⟩ := slots_lookup _ _ _ _ hs
  simp only [Nat.sub_zero] at h2
  have hlt : s < vs.length := (List.getElem?_eq_some_iff.1 h2).1
  show (vs.toArray ++ _)[s]? = some v
  rw [Array.getElem?_append_left (by simpa using hlt)]
  simpa using h2
theorem sd_then {y : Code} (h : SD D (y.wp P Q) n l own ro) : SD D (Exit.then (y.wp P Q) Q .normal) n l own ro := h
theorem sd_block {id : Nat} (h : SD D (Q .normal) n l own ro) : SD D (Exit.inBlock id Q .normal) n l own ro := h
theorem sd_seq {x y : Code} (h : SD D (x.wp P (Exit.then (y.wp P Q) Q)) n l own ro) : SD D ((Code.seq x y).wp P Q) n l own ro := fun a w ha hw => wp_seq (h a w ha hw)
theorem sd_ret (h : SD D (Q .ret) n l own ro) : SD D (Code.ret.wp P Q) n l own ro := fun a w ha hw => wp_ret (h a w ha hw)
def SDL (D : Nat) (P : Program) (ops : Array Oper) (Q : Exit → Act → World → Prop) (r : List Oper) (n : Nat) (l : List (Nat × Value)) (own : List (Nat × Obj)) (ro : List Snap) : Prop :=
  SD D (fun a w => wpList P ops Q r a w) n l own ro
theorem sd_region {id : Nat} {lops : List Oper} (h : SDL D P lops.toArray Q lops n l own ro) : SD D ((Code.region id lops.toArray false).wp P Q) n l own ro := fun a w ha hw => wp_region_lit (h a w ha hw)
theorem sdl_val {ops : Array Oper} {d : Nat} {op : Op} {ty : TypeId} {pos : String} {af : Array Edge} {r : List Oper} {v : Value} (hd : decide (d < n) = true) (hv : OpV P n l own ro op ty v) (h : SDL D P ops Q r n ((d, v) :: l) own ro) :
    SDL D P ops Q (⟨some d, op, ty, pos, af, none⟩ :: r) n l own ro := by
  intro a w ha hw
  refine wpList_step fun K hK => ?_
  rw [if_pos (by simp [Region.wanted])]
  have he : (Act.eval { a with defers := [{ target := .collected D, args := #[] }] }) = a.eval := by funext x; cases x <;> rfl
  unfold Oper.wp
  rw [he, hv a w _ ha hw rfl rfl]
  exact hK _ _ (h _ w (ha.put v (of_decide_eq_true hd)) hw)
theorem sdl_end {ops : Array Oper} (h : SD D (Q .normal) n l own ro) : SDL D P ops Q [] n l own ro := h
theorem ret1M {fd : Func} {t : Tmp} {v : Value} (hr : fd.results = #[.tmp t]) (hv : l.lookup t = some v) (h : ∀ w', Mem w' rest ro → R (.returned v) w') : SD D (bodyPostM Fence.wide m P fd R .ret) n l ((D, .deferred (some [])) :: rest) ro := by
  intro a w ha hw
  have hl := hw.own_at _ (.head _)
  have hm2 := (Mem.turn (l1 := []) hw (turned_put (o' := .deferred none) hl)).less (List.sublist_cons_self _ _) (fun _ h => h)
  refine ⟨by simp, .inl ⟨D, _, rfl, run_takeDeferred hl, v, ?_, h _ hm2⟩⟩
  have := ha.at_ t _ hv
  rw [results_tmp hr]
  simp [Array.getD_eq_getD_getElem?, this]
end
end Go.PK

namespace Go.PK
open Go Go.RowKit
section
variable {P : Program} {m n : Nat} {l : List (Nat × Value)} {own rest : List (Nat × Obj)} {ro : List Snap} {Q : Exit → Act → World → Prop} {R : Ending → World → Prop} {L : Nat} {fn : FuncId} {tmps : Array Value} {assign body : Code} {D : Nat}
theorem yield_one {w : World} {d1 : Nat} {v1 : Value} (hm : Mem w ((L, .loop (recL .ready fn tmps #[d1] assign body D)) :: rest) ro) (hfh : FH n l ⟨tmps, []⟩) (h1 : decide (d1 < n) = true)
    (h : WI (Fence.wide.inRound L) m P assign (Exit.then (fun a w => ∃ w2, (Instr.beginRound L).run P w = .ok () w2 ∧ body.wpIn (Fence.wide.inRound L) m P (roundPost P L R) a w2) (fun _ _ _ => False)) n ((d1, v1) :: l) ((L, .loop (recL .ready fn tmps #[d1] assign body D)) :: rest) ro) :
    YieldAt Fence.wide m P L #[v1] w R := by
  have hl := hm.own_at _ (.head _)
  have hy := run_yield (P := P) (args := #[v1]) hl rfl
  refine ⟨fn, _, assign, body, hy, roundIn_of_wpIn trivial (h _ w ?_ hm)⟩
  have := hfh.put v1 (of_decide_eq_true h1)
  have e : (#[d1] : Array Tmp).zip #[v1] = #[(d1, v1)] := by
    apply Array.ext'
    simp
  show FH n ((d1, v1) :: l) { tmps := ((#[d1] : Array Tmp).zip #[v1]).foldl (fun t (q : Tmp × Value) => t.setIfInBounds q.1 q.2) tmps, defers := [] }
  rw [e]
  exact this
end
section
variable {P : Program} {m n : Nat} {l : List (Nat × Value)} {own : List (Nat × Obj)} {ro : List Snap} {Q : Exit → Act → World → Prop}
end
end Go.PK

namespace Go.PK
open Go Go.RowKit
section
variable {P : Program} {m n : Nat} {l : List (Nat × Value)} {own : List (Nat × Obj)} {ro : List Snap} {Q : Exit → Act → World → Prop}
theorem s_yieldG {lops : List Oper} {j d t L gj dj : Nat} {want : Bool} {xs : Array Operand} {tys : Array TypeId} {ty : TypeId} {pos : String} {af : Array Edge} {vs : List Value} {v : Value} {τ : Type} (I : τ → Prop) (O : τ → List (Nat × Obj))
    (ho : lops[j]? = some ⟨some d, .call ⟨.value (.tmp t), xs, tys⟩, ty, pos, af, some (gj, want)⟩) (hj : (lops[gj]?).bind (·.dst) = some dj) (hb : l.lookup dj = some (.bool want)) (hd : decide (d < n) = true) (hf : l.lookup t = some (.func (.yield L) #[] #[])) (hx : evs l xs.toList = some vs) (hm : decide (1 ≤ m) = true)
    (hY : ∀ w, Mem w own ro → YieldAt Fence.wide (m - 1) P L vs.toArray w fun e w' => e = .returned v ∧ ∃ x, I x ∧ Mem w' (O x) ro)
    (h : ∀ x, I x → S (fun a w => wpListIn Fence.wide m P lops.toArray Q (lops.drop (j + 1)) a w) n ((d, v) :: l) (O x) ro) : S (fun a w => wpListIn Fence.wide m P lops.toArray Q (lops.drop j) a w) n l own ro := by
  intro a w ha hw
  have hlt : j < lops.length := (List.getElem?_eq_some_iff.1 ho).1
  have he : lops[j] = ⟨some d, .call ⟨.value (.tmp t), xs, tys⟩, ty, pos, af, some (gj, want)⟩ := by
    rw [List.getElem?_eq_getElem hlt] at ho; exact Option.some.inj ho
  have hw1 := go_some (lops := lops) (n := n) (l := l) (o := ⟨some d, .call ⟨.value (.tmp t), xs, tys⟩, ty, pos, af, some (gj, want)⟩) rfl hj hb a ha
  obtain ⟨fn, tmps, assign, body, hy, hR⟩ := hY w hw
  show wpListIn Fence.wide m P lops.toArray Q (lops.drop j) a w
  rw [List.drop_eq_getElem_cons hlt, he]
  refine wpListIn_step fun K hK => ?_
  rw [if_pos hw1]
  refine ⟨fun _ _ => trivial, ?_⟩
  rw [Oper.semAt_eq _ _ _ (fun c e => by cases e)]
  have hev := ha.evals hx
  have hrun : (execOp a.eval ⟨some d, .call ⟨.value (.tmp t), xs, tys⟩, ty, pos, af, some (gj, want)⟩).run P w = .ok (.round L fn tmps assign body) w := by
    have h1 : (xs.map a.eval) = vs.toArray := by
      apply Array.ext'
      rw [Array.toList_map, hev]
    have hft : a.tmps[t]?.getD undef = .func (.yield L) #[] #[] := by rw [ha.at_ t _ hf]; rfl
    simp [execOp, resolve, hft, h1, go_sem, invoke, hy]
  rw [hrun]
  refine ⟨fun _ => of_decide_eq_true hm, ?_⟩
  refine hR.mono ?_
  rintro e w' ⟨rfl, x, hI, hm'⟩
  exact hK _ _ (h x hI _ w' (ha.put v (of_decide_eq_true hd)) hm')
end
end Go.PK

namespace Go.PK
open Go Go.RowKit Go.Maps
def bsB (bs : List UInt8) : ByteArray := ⟨bs.toArray⟩
theorem bsB_size (bs : List UInt8) : (bsB bs).size = bs.length := by simp [bsB, ByteArray.size]
theorem bsB_app (bs : List UInt8) (t : ByteArray) : bsB bs ++ t = bsB (bs ++ t.data.toList) := by
  apply ByteArray.ext
  simp [bsB]
theorem bsB_nil {bs : List UInt8} : (bsB bs).size = 0 ↔ bs = [] := by rw [bsB_size]; exact List.length_eq_zero_iff
theorem words_go {c : Nat} {r : List Nat} {bs : List UInt8} (h : foldC c ≠ spcB) : wordsF (c :: r) (bsB bs) = wordsF r (bsB (bs ++ (foldC c).data.toList)) := by
  rw [wordsF, if_neg h, bsB_app]
theorem words_cut {c : Nat} {r : List Nat} {bs : List UInt8} (h : foldC c = spcB) (hb : bs ≠ []) : wordsF (c :: r) (bsB bs) = bsB bs :: wordsF r (bsB []) := by
  rw [wordsF, if_pos h, if_neg (fun e => hb (bsB_nil.1 e))]; rfl
theorem words_blank {c : Nat} {r : List Nat} (h : foldC c = spcB) : wordsF (c :: r) (bsB []) = wordsF r (bsB []) := by
  rw [wordsF, if_pos h, if_pos (bsB_nil.2 rfl)]; rfl
theorem words_end {bs : List UInt8} (hb : bs ≠ []) : wordsF [] (bsB bs) = [bsB bs] := by
  rw [wordsF, if_neg (fun e => hb (bsB_nil.1 e))]
theorem words_stop : wordsF [] (bsB []) = [] := by
  rw [wordsF, if_pos (bsB_nil.2 rfl)]
theorem strC_snoc (ws : List ByteArray) (x : ByteArray) : (ws ++ [x]).map Value.string = ws.map Value.string ++ [.string x] := by simp
end Go.PK

namespace Go.PK
open Go Go.RowKit Go.Maps
theorem joinS_lib : ∀ (xs : List ByteArray), (Lib.join (xs.map (·.data.toList)) [32]) = (joinS xs).data.toList
  | [] => rfl
  | [a] => by rw [List.map_cons, List.map_nil, Lib.join_one]; rfl
  | a :: b :: l => by
    have ih := joinS_lib (b :: l)
    rw [List.map_cons, Lib.join_cons]
    rw [List.map_cons, Lib.join_cons] at ih
    show _ = (a ++ spcB ++ joinS (b :: l)).data.toList
    rw [ByteArray.data_append, ByteArray.data_append, Array.toList_append, Array.toList_append, ← ih]
    simp [Lib.joinTail, spcB]
end Go.PK

namespace Go.PK
open Go Go.RowKit Go.Maps
structure FD where
  ag : Int
  num : Int
  kind : Int
  hd : Int
  to : Int
  txt : ByteArray
deriving DecidableEq
def FD.cells (x : FD) : List Value := [.int .i64 x.ag, .int .i64 x.num, .int .i64 x.kind, .int .i64 x.hd, .int .i64 x.to, .string x.txt]
structure HG where
  id : Int
  name : ByteArray
  oth : List ByteArray
  spl : List (ByteArray × Int)
  into : Int
structure SG8 where
  hs : List HG
  ref : List FD
def lkH (hs : List HG) (id : Int) : Option HG := hs.find? (fun h => decide (h.id = id))
def setH : List HG → HG → List HG
  | [], _ => []
  | x :: l, h => if x.id = h.id then h :: l else x :: setH l h
def edges (h : HG) : List Int := if h.into > 0 then [h.into] else h.spl.map (·.2)
inductive RchH (hs : List HG) (t : Int) : Int → Prop
  | here : RchH hs t t
  | step {id c : Int} {h : HG} : lkH hs id = some h → c ∈ edges h → RchH hs t c → RchH hs t id
open Classical in
noncomputable def accS (hs : List HG) (x : FD) : Option (List HG) :=
  match lkH hs x.hd with
  | none => if x.kind = 1 then some (hs ++ [⟨x.hd, x.txt, [], [], 0⟩]) else none
  | some h =>
    if x.kind = 1 then none
    else if h.into ≠ 0 then none
    else if x.kind = 2 then some (setH hs { h with name := x.txt, oth := h.oth ++ [h.name] })
    else if x.kind = 3 then some (setH hs { h with oth := h.oth ++ [x.txt] })
    else if lkH hs x.to = none then none
    else if RchH hs x.hd x.to then none
    else if x.kind = 4 then some (setH hs { h with into := x.to })
    else some (setH hs { h with spl := h.spl ++ [(foldS x.txt, x.to)] })
noncomputable def applyS (s : SG8) (x : FD) : SG8 := match accS s.hs x with
  | none => ⟨s.hs, s.ref ++ [x]⟩
  | some hs => ⟨hs, s.ref⟩
noncomputable def stF (fs : List FD) : SG8 := fs.foldl applyS ⟨[], []⟩
theorem stF_snoc (fs : List FD) (x : FD) : stF (fs ++ [x]) = applyS (stF fs) x := by
  unfold stF
  rw [List.foldl_append]; rfl
def rightF (x : FD) : Prop := 1 ≤ x.ag ∧ 1 ≤ x.num ∧ 1 ≤ x.hd ∧ (((x.kind = 1 ∨ x.kind = 2 ∨ x.kind = 3) ∧ wordsP x.txt ≠ []) ∨ (x.kind = 4 ∧ 1 ≤ x.to) ∨ (x.kind = 5 ∧ 1 ≤ x.to ∧ (wordsP x.txt).length = 1))
instance (x : FD) : Decidable (rightF x) := by unfold rightF; infer_instance
def befF (a b : FD) : Prop := a.num < b.num ∨ (a.num = b.num ∧ a.ag < b.ag)
instance (a b : FD) : Decidable (befF a b) := by unfold befF; infer_instance
def insF : List FD → FD → List FD
  | [], x => [x]
  | y :: l, x => if befF y x then y :: insF l x else x :: y :: l
def takeF (fs : List FD) (x : FD) : Int × List FD :=
  if ¬rightF x then (1, fs)
  else if x ∈ fs then (22, fs)
  else if ∃ y ∈ fs, y.num = x.num ∧ y.ag = x.ag then (30, fs)
  else if 5000 ≤ fs.length then (2, fs)
  else (0, insF fs x)
def srtF8 (fs : List FD) : Prop := fs.Pairwise befF
theorem lkH_cons {x : HG} {l : List HG} {id : Int} : lkH (x :: l) id = if x.id = id then some x else lkH l id := by
  unfold lkH
  rw [List.find?_cons]
  by_cases h : x.id = id
  · rw [decide_eq_true h, if_pos h]
  · rw [decide_eq_false h, if_neg h]
theorem lkH_mem {hs : List HG} {id : Int} {h : HG} (hl : lkH hs id = some h) : h ∈ hs ∧ h.id = id :=
  ⟨List.mem_of_find?_eq_some hl, of_decide_eq_true (List.find?_some (p := fun h : HG => decide (h.id = id)) hl)⟩
theorem lkH_none {hs : List HG} {id : Int} : lkH hs id = none ↔ ∀ h ∈ hs, h.id ≠ id := by
  unfold lkH
  rw [List.find?_eq_none]
  simp
theorem lkH_snoc {hs : List HG} {h : HG} {id : Int} : lkH (hs ++ [h]) id = match lkH hs id with | some g => some g | none => if h.id = id then some h else none := by
  induction hs with
  | nil => rw [List.nil_append, lkH_cons]; rfl
  | cons x l ih =>
    rw [List.cons_append, lkH_cons, lkH_cons, ih]
    by_cases hx : x.id = id
    · rw [if_pos hx, if_pos hx]
    · rw [if_neg hx, if_neg hx]
theorem lkH_set : ∀ {hs : List HG} {h : HG} {id : Int}, lkH (setH hs h) id = if id = h.id then (lkH hs id).map (fun _ => h) else lkH hs id
  | [], h, id => by unfold setH lkH; split <;> rfl
  | x :: l, h, id => by
    unfold setH
    by_cases hx : x.id = h.id
    · rw [if_pos hx, lkH_cons, lkH_cons]
      by_cases hi : id = h.id
      · rw [if_pos hi.symm, if_pos hi, if_pos (hx.trans hi.symm)]; rfl
      · rw [if_neg (fun e => hi e.symm), if_neg hi, if_neg (fun e => hi (e.symm.trans hx))]
    · rw [if_neg hx, lkH_cons, lkH_set, lkH_cons]
      by_cases hi : id = h.id
      · subst hi; rw [if_pos rfl, if_pos rfl, if_neg hx, if_neg hx]
      · rw [if_neg hi, if_neg hi]
theorem setH_ids : ∀ {hs : List HG} {h : HG}, (setH hs h).map (·.id) = hs.map (·.id)
  | [], _ => rfl
  | x :: l, h => by
    unfold setH
    split
    · rename_i hx; rw [List.map_cons, List.map_cons, hx]
    · rw [List.map_cons, List.map_cons, setH_ids]
theorem setH_mem : ∀ {hs : List HG} {h g : HG}, g ∈ setH hs h → g ∈ hs ∨ g = h
  | [], _, _, hg => .inl hg
  | x :: l, h, g, hg => by
    unfold setH at hg
    split at hg
    · rcases List.mem_cons.1 hg with rfl | hg
      · exact .inr rfl
      · exact .inl (.tail _ hg)
    · rcases List.mem_cons.1 hg with rfl | hg
      · exact .inl (.head _)
      · rcases setH_mem hg with hg | hg
        · exact .inl (.tail _ hg)
        · exact .inr hg
structure Acy (hs : List HG) : Prop where
  ids : (hs.map (·.id)).Nodup
  pos : ∀ h ∈ hs, 1 ≤ h.id ∧ 0 ≤ h.into ∧ ∀ p ∈ h.spl, 1 ≤ p.2
  shut : ∀ h ∈ hs, ∀ c ∈ edges h, (lkH hs c).isSome = true
  rank : ∃ r : Int → Nat, ∀ h ∈ hs, ∀ c ∈ edges h, r c < r h.id
theorem lkH_of {hs : List HG} (hn : (hs.map (·.id)).Nodup) {h : HG} (hm : h ∈ hs) : lkH hs h.id = some h := by
  induction hs with
  | nil => cases hm
  | cons x l ih =>
    rw [List.map_cons, List.nodup_cons] at hn
    rw [lkH_cons]
    rcases List.mem_cons.1 hm with rfl | hm
    · rw [if_pos rfl]
    · rw [if_neg (fun e => hn.1 (by rw [e]; exact List.mem_map_of_mem hm)), ih hn.2 hm]
theorem Acy.nil : Acy [] := ⟨List.nodup_nil, fun h hh => (by cases hh), fun h hh => (by cases hh), fun _ => 0, fun h hh => (by cases hh)⟩
theorem RchH.iff {hs : List HG} {t id : Int} : RchH hs t id ↔ id = t ∨ ∃ h, lkH hs id = some h ∧ ∃ c ∈ edges h, RchH hs t c := by
  constructor
  · intro h
    cases h with
    | here => exact .inl rfl
    | step h1 h2 h3 => exact .inr ⟨_, h1, _, h2, h3⟩
  · rintro (rfl | ⟨h, h1, c, h2, h3⟩)
    · exact .here
    · exact .step h1 h2 h3
theorem Acy.more {hs hs' : List HG} (ha : Acy hs) (hids : hs'.map (·.id) = hs.map (·.id)) (hpos : ∀ h ∈ hs', 1 ≤ h.id ∧ 0 ≤ h.into ∧ ∀ p ∈ h.spl, 1 ≤ p.2) {a t : Int} (ht : (lkH hs t).isSome = true) (hno : ¬RchH hs a t)
    (he : ∀ h ∈ hs', ∀ c ∈ edges h, (∃ g ∈ hs, g.id = h.id ∧ c ∈ edges g) ∨ (h.id = a ∧ c = t)) : Acy hs' := by
  have look : ∀ c, (lkH hs c).isSome = true → (lkH hs' c).isSome = true := fun c hc => by
    cases hl : lkH hs' c with
    | some _ => rfl
    | none =>
      obtain ⟨g, hg⟩ := Option.isSome_iff_exists.1 hc
      obtain ⟨h1, h2⟩ := lkH_mem hg
      have : c ∈ hs'.map (·.id) := by rw [hids, ← h2]; exact List.mem_map_of_mem h1
      obtain ⟨g', hg', he'⟩ := List.mem_map.1 this
      exact absurd he' (lkH_none.1 hl g' hg')
  obtain ⟨r, hr⟩ := ha.rank
  refine ⟨by rw [hids]; exact ha.ids, hpos, fun h hh c hc => ?_, ?_⟩
  · rcases he h hh c hc with ⟨g, hg, _, hc⟩ | ⟨_, rfl⟩
    · exact look c (ha.shut g hg c hc)
    · exact look c ht
  · open Classical in
    refine ⟨fun x => if RchH hs a x then r x + r t + 1 else r x, fun h hh c hc => ?_⟩
    rcases he h hh c hc with ⟨g, hg, hi, hc⟩ | ⟨h1, rfl⟩
    · have h1 := hr g hg c hc
      rw [← hi]
      by_cases hca : RchH hs a c
      · have : RchH hs a g.id := .step (lkH_of ha.ids hg) hc hca
        dsimp only
        rw [if_pos hca, if_pos this]; omega
      · dsimp only
        rw [if_neg hca]
        split <;> omega
    · have h2 : RchH hs a h.id := by rw [h1]; exact .here
      dsimp only
      rw [if_neg hno, if_pos h2]; omega
theorem Acy.acc {hs hs' : List HG} (ha : Acy hs) {x : FD} (hx : rightF x) (h : accS hs x = some hs') : Acy hs' := by
  obtain ⟨x1, x2, x3, x4⟩ := hx
  unfold accS at h
  cases hl : lkH hs x.hd with
  | none =>
    rw [hl] at h
    dsimp only at h
    split at h
    · injection h with h
      subst h
      have hno := lkH_none.1 hl
      refine ⟨?_, fun h hh => ?_, fun h hh c hc => ?_, ?_⟩
      · rw [List.map_append, List.nodup_append]
        refine ⟨ha.ids, by simp, fun a h1 b h2 => ?_⟩
        obtain ⟨g, hg, rfl⟩ := List.mem_map.1 h1
        simp at h2
        subst h2
        exact hno g hg
      · rcases List.mem_append.1 hh with hh | hh
        · exact ha.pos h hh
        · rw [List.mem_singleton.1 hh]
          exact ⟨x3, Int.le_refl _, fun p hp => (by cases hp)⟩
      · rcases List.mem_append.1 hh with hh | hh
        · have := ha.shut h hh c hc
          rw [lkH_snoc]
          cases hq : lkH hs c with
          | some g => rfl
          | none => rw [hq] at this; cases this
        · rw [List.mem_singleton.1 hh] at hc
          cases hc
      · obtain ⟨r, hr⟩ := ha.rank
        refine ⟨r, fun h hh c hc => ?_⟩
        rcases List.mem_append.1 hh with hh | hh
        · exact hr h hh c hc
        · rw [List.mem_singleton.1 hh] at hc
          cases hc
    · cases h
  | some g =>
    rw [hl] at h
    obtain ⟨hg, hgi⟩ := lkH_mem hl
    obtain ⟨p1, p2, p3⟩ := ha.pos g hg
    have same : ∀ g' : HG, g'.id = g.id → edges g' = edges g → g'.into = g.into → g'.spl = g.spl → Acy (setH hs g') := fun g' e1 e2 e3 e4 => by
      obtain ⟨r, hr⟩ := ha.rank
      refine ⟨by rw [setH_ids]; exact ha.ids, fun h hh => ?_, fun h hh c hc => ?_, r, fun h hh c hc => ?_⟩
      · rcases setH_mem hh with hh | rfl
        · exact ha.pos h hh
        · rw [e1, e3, e4]; exact ha.pos g hg
      · have h1 : (lkH hs c).isSome = true := by
          rcases setH_mem hh with hh | rfl
          · exact ha.shut h hh c hc
          · exact ha.shut g hg c (e2 ▸ hc)
        rw [lkH_set]
        split
        · obtain ⟨q, hq⟩ := Option.isSome_iff_exists.1 h1
          rw [hq]; rfl
        · exact h1
      · rcases setH_mem hh with hh | rfl
        · exact hr h hh c hc
        · rw [e1]; exact hr g hg c (e2 ▸ hc)
    dsimp only at h
    split at h
    · cases h
    split at h
    · cases h
    rename_i hin
    have hin : g.into = 0 := Decidable.not_not.1 hin
    split at h
    · injection h with h; subst h; exact same _ rfl rfl rfl rfl
    split at h
    · injection h with h; subst h; exact same _ rfl rfl rfl rfl
    split at h
    · cases h
    rename_i hto
    have ht : (lkH hs x.to).isSome = true := by
      cases hq : lkH hs x.to with
      | none => exact absurd hq hto
      | some _ => rfl
    split at h
    · cases h
    rename_i hno
    have hto1 : 1 ≤ x.to := by
      obtain ⟨q, hq⟩ := Option.isSome_iff_exists.1 ht
      obtain ⟨q1, q2⟩ := lkH_mem hq
      rw [← q2]; exact (ha.pos q q1).1
    have e0 : edges g = g.spl.map (·.2) := by unfold edges; rw [if_neg (by omega)]
    split at h
    · injection h with h
      subst h
      refine ha.more setH_ids (fun h hh => ?_) ht hno (fun h hh c hc => ?_)
      · rcases setH_mem hh with hh | rfl
        · exact ha.pos h hh
        · exact ⟨p1, by show 0 ≤ x.to; omega, p3⟩
      · rcases setH_mem hh with hh | rfl
        · exact .inl ⟨h, hh, rfl, hc⟩
        · refine .inr ⟨hgi, ?_⟩
          unfold edges at hc
          rw [if_pos (by show x.to > 0; omega)] at hc
          exact List.mem_singleton.1 hc
    · injection h with h
      subst h
      refine ha.more setH_ids (fun h hh => ?_) ht hno (fun h hh c hc => ?_)
      · rcases setH_mem hh with hh | rfl
        · exact ha.pos h hh
        · refine ⟨p1, p2, fun p hp => ?_⟩
          rcases List.mem_append.1 hp with hp | hp
          · exact p3 p hp
          · rw [List.mem_singleton.1 hp]; exact hto1
      · rcases setH_mem hh with hh | rfl
        · exact .inl ⟨h, hh, rfl, hc⟩
        · unfold edges at hc
          rw [if_neg (by show ¬g.into > 0; omega)] at hc
          rw [List.map_append] at hc
          rcases List.mem_append.1 hc with hc | hc
          · exact .inl ⟨g, hg, rfl, by rw [e0]; exact hc⟩
          · exact .inr ⟨hgi, by simpa using hc⟩
theorem Acy.apply {s : SG8} (ha : Acy s.hs) {x : FD} (hx : rightF x) : Acy (applyS s x).hs := by
  unfold applyS
  cases h : accS s.hs x with
  | none => exact ha
  | some hs => exact ha.acc hx h
theorem Acy.st : ∀ (fs : List FD) {s : SG8}, Acy s.hs → (∀ x ∈ fs, rightF x) → Acy (fs.foldl applyS s).hs
  | [], _, ha, _ => ha
  | x :: l, s, ha, h => Acy.st l (ha.apply (h x (.head _))) fun y hy => h y (.tail _ hy)
theorem stF_acy {fs : List FD} (h : ∀ x ∈ fs, rightF x) : Acy (stF fs).hs := Acy.st fs Acy.nil h
end Go.PK

namespace Go.PK
open Go Go.RowKit Go.Maps
def amg (ws : List ByteArray) (t : ByteArray) : Bool := ws.any (fun w => decide (w = t))
def splF (ws : List ByteArray) (h : HG) : Int := match h.spl.find? (fun p : ByteArray × Int => amg ws p.1) with | some p => p.2 | none => 0
def stepR (ws : List ByteArray) (h : HG) : Int := if h.into > 0 then h.into else splF ws h
inductive EndsN (hs : List HG) (ws : List ByteArray) : Nat → Int → Int → Prop
  | stop {id : Int} {h : HG} : lkH hs id = some h → stepR ws h = 0 → EndsN hs ws 0 id id
  | go {n : Nat} {id e : Int} {h : HG} : lkH hs id = some h → stepR ws h ≠ 0 → EndsN hs ws n (stepR ws h) e → EndsN hs ws (n + 1) id e
open Classical in
noncomputable def resF (hs : List HG) (ws : List ByteArray) (id : Int) : Int := if h : ∃ e n, EndsN hs ws n id e then h.choose else 0
section
variable {hs : List HG} {ws : List ByteArray}
theorem stepR_edge {h : HG} (h0 : stepR ws h ≠ 0) : stepR ws h ∈ edges h := by
  unfold stepR edges splF at *
  by_cases hi : h.into > 0
  · rw [if_pos hi, if_pos hi]; exact .head _
  · rw [if_neg hi] at h0 ⊢
    rw [if_neg hi]
    cases hq : h.spl.find? (fun p : ByteArray × Int => amg ws p.1) with
    | none => rw [hq] at h0; exact absurd rfl h0
    | some p => exact List.mem_map_of_mem (List.mem_of_find?_eq_some hq)
theorem EndsN.det {n m : Nat} {id e e' : Int} (h : EndsN hs ws n id e) (h' : EndsN hs ws m id e') : e = e' := by
  induction h generalizing m with
  | stop h1 h2 =>
    cases h' with
    | stop _ _ => rfl
    | go h3 h4 _ => rw [h1] at h3; cases h3; exact absurd h2 h4
  | go h1 h2 _ ih =>
    cases h' with
    | stop h3 h4 => rw [h1] at h3; cases h3; exact absurd h4 h2
    | go h3 h4 h5 => rw [h1] at h3; cases h3; exact ih h5
theorem EndsN.res {n : Nat} {id e : Int} (h : EndsN hs ws n id e) : resF hs ws id = e := by
  have hx : ∃ e n, EndsN hs ws n id e := ⟨e, n, h⟩
  unfold resF
  rw [dif_pos hx]
  obtain ⟨m, hm⟩ := hx.choose_spec
  exact hm.det h
theorem EndsN.last {n : Nat} {id e : Int} (h : EndsN hs ws n id e) : ∃ g, lkH hs e = some g ∧ stepR ws g = 0 := by
  induction h with
  | stop h1 h2 => exact ⟨_, h1, h2⟩
  | go _ _ _ ih => exact ih
theorem EndsN.reach {n : Nat} {id e : Int} (h : EndsN hs ws n id e) : RchH hs e id := by
  induction h with
  | stop _ _ => exact .here
  | go h1 h2 _ ih => exact .step h1 (stepR_edge h2) ih
theorem Acy.ends (ha : Acy hs) (ws : List ByteArray) {id : Int} {h : HG} (hl : lkH hs id = some h) : ∃ n e, EndsN hs ws n id e := by
  obtain ⟨r, hr⟩ := ha.rank
  have key : ∀ (k : Nat) (id : Int) (h : HG), r id ≤ k → lkH hs id = some h → ∃ n e, EndsN hs ws n id e := by
    intro k
    induction k with
    | zero =>
      intro id h hk hl
      by_cases h0 : stepR ws h = 0
      · exact ⟨0, id, .stop hl h0⟩
      · obtain ⟨h1, h2⟩ := lkH_mem hl
        have := hr h h1 _ (stepR_edge h0)
        rw [h2] at this
        omega
    | succ k ih =>
      intro id h hk hl
      by_cases h0 : stepR ws h = 0
      · exact ⟨0, id, .stop hl h0⟩
      · obtain ⟨h1, h2⟩ := lkH_mem hl
        have h3 := hr h h1 _ (stepR_edge h0)
        rw [h2] at h3
        obtain ⟨g, hg⟩ := Option.isSome_iff_exists.1 (ha.shut h h1 _ (stepR_edge h0))
        obtain ⟨n, e, hn⟩ := ih _ g (by omega) hg
        exact ⟨n + 1, e, .go hl h0 hn⟩
  exact key (r id) id h (Nat.le_refl _) hl
theorem Acy.res (ha : Acy hs) (ws : List ByteArray) {id : Int} {h : HG} (hl : lkH hs id = some h) : ∃ n, EndsN hs ws n id (resF hs ws id) := by
  obtain ⟨n, e, hn⟩ := ha.ends ws hl
  exact ⟨n, by rw [hn.res]; exact hn⟩
theorem res_again {id : Int} {n : Nat} (h : EndsN hs ws n id (resF hs ws id)) : resF hs ws (resF hs ws id) = resF hs ws id := by
  obtain ⟨g, h1, h2⟩ := h.last
  exact (EndsN.stop h1 h2).res
end
noncomputable def resolveF (hs : List HG) (ws : List ByteArray) (id : Int) : Int × Bool := match lkH hs id with | none => (0, false) | some _ => (resF hs ws id, true)
theorem snocRec {α : Type} {motive : List α → Prop} (nil : motive []) (snoc : ∀ l a, motive l → motive (l ++ [a])) (l : List α) : motive l := by
  have key : ∀ (n : Nat) (l : List α), l.length = n → motive l := by
    intro n
    induction n with
    | zero => intro l hl; rw [List.eq_nil_of_length_eq_zero hl]; exact nil
    | succ n ih =>
      intro l hl
      have hne : l ≠ [] := fun e => by subst e; simp at hl
      rw [← List.dropLast_concat_getLast hne]
      exact snoc _ _ (ih _ (by simp [hl]))
  exact key _ l rfl
def leastB (p : HG → Bool) (l : List HG) : Int := l.foldl (fun a h => if p h = true ∧ (a = 0 ∨ h.id < a) then h.id else a) 0
def IsLeast (p : HG → Bool) (l : List HG) (a : Int) : Prop := (a = 0 ∧ ∀ h ∈ l, p h = false) ∨ ((∃ h ∈ l, p h = true ∧ h.id = a) ∧ ∀ h ∈ l, p h = true → a ≤ h.id)
theorem leastB_snoc (p : HG → Bool) (l : List HG) (h : HG) : leastB p (l ++ [h]) = if p h = true ∧ (leastB p l = 0 ∨ h.id < leastB p l) then h.id else leastB p l := by
  unfold leastB
  rw [List.foldl_append]; rfl
theorem leastB_is (p : HG → Bool) : ∀ (l : List HG), (∀ h ∈ l, 1 ≤ h.id) → IsLeast p l (leastB p l) := fun l => by
  induction l using snocRec with
  | nil => intro _; exact .inl ⟨rfl, fun h hh => (by cases hh)⟩
  | snoc l h ih =>
    intro hp
    have hi := ih fun g hg => hp g (List.mem_append_left _ hg)
    have hh := hp h (by simp)
    rw [leastB_snoc]
    by_cases hc : p h = true ∧ (leastB p l = 0 ∨ h.id < leastB p l)
    · rw [if_pos hc]
      refine .inr ⟨⟨h, by simp, hc.1, rfl⟩, fun g hg hpg => ?_⟩
      rcases List.mem_append.1 hg with hg | hg
      · rcases hi with ⟨_, h2⟩ | ⟨⟨q, hq, _, hqi⟩, h2⟩
        · rw [h2 g hg] at hpg; cases hpg
        · have h3 := h2 g hg hpg
          have h4 := hp q (List.mem_append_left _ hq)
          rcases hc.2 with h5 | h5 <;> omega
      · rw [List.mem_singleton.1 hg]; exact Int.le_refl _
    · rw [if_neg hc]
      rcases hi with ⟨h1, h2⟩ | ⟨⟨q, hq, hqp, hqi⟩, h2⟩
      · refine .inl ⟨h1, fun g hg => ?_⟩
        rcases List.mem_append.1 hg with hg | hg
        · exact h2 g hg
        · rw [List.mem_singleton.1 hg]
          cases hx : p h with
          | false => rfl
          | true => exact absurd ⟨hx, .inl h1⟩ hc
      · refine .inr ⟨⟨q, List.mem_append_left _ hq, hqp, hqi⟩, fun g hg hpg => ?_⟩
        rcases List.mem_append.1 hg with hg | hg
        · exact h2 g hg hpg
        · rw [List.mem_singleton.1 hg] at hpg ⊢
          have : ¬h.id < leastB p l := fun hx => hc ⟨hpg, .inr hx⟩
          omega
theorem IsLeast.det {p : HG → Bool} {l : List HG} {a b : Int} (ha : IsLeast p l a) (hb : IsLeast p l b) (hp : ∀ h ∈ l, 1 ≤ h.id) : a = b := by
  rcases ha with ⟨h1, h2⟩ | ⟨⟨h, hh, hph, hi⟩, h2⟩ <;> rcases hb with ⟨k1, k2⟩ | ⟨⟨g, hg, hpg, ki⟩, k2⟩
  · rw [h1, k1]
  · rw [h2 g hg] at hpg; cases hpg
  · rw [k2 h hh] at hph; cases hph
  · have a1 := h2 g hg hpg
    have a2 := k2 h hh hph
    omega
theorem leastB_perm {p : HG → Bool} {l m : List HG} (h : l.Perm m) (hp : ∀ h ∈ l, 1 ≤ h.id) : leastB p l = leastB p m := by
  have h1 := leastB_is p l hp
  have h2 := leastB_is p m fun g hg => hp g (h.mem_iff.2 hg)
  refine IsLeast.det h1 ?_ hp
  rcases h2 with ⟨a, b⟩ | ⟨⟨g, hg, c⟩, d⟩
  · exact .inl ⟨a, fun g hg => b g (h.mem_iff.1 hg)⟩
  · exact .inr ⟨⟨g, h.mem_iff.2 hg, c⟩, fun q hq => d q (h.mem_iff.1 hq)⟩
def namedB (t : ByteArray) (h : HG) : Bool := decide (foldS h.name = t)
def alsoB (t : ByteArray) (h : HG) : Bool := amg (h.oth.map foldS) t
def findT (hs : List HG) (t : ByteArray) : Int := if leastB (namedB t) hs = 0 then leastB (alsoB t) hs else leastB (namedB t) hs
def findF (hs : List HG) (s : ByteArray) : Int × Bool := if (foldS s).size = 0 then (0, false) else (findT hs (foldS s), decide (findT hs (foldS s) ≠ 0))
theorem befF_trans {a b c : FD} (h1 : befF a b) (h2 : befF b c) : befF a c := by unfold befF at *; omega
theorem befF_irr {a : FD} : ¬befF a a := by unfold befF; omega
theorem befF_or {a b : FD} (h : ¬(a.num = b.num ∧ a.ag = b.ag)) : befF a b ∨ befF b a := by unfold befF; omega
theorem insF_perm : ∀ (l : List FD) (x : FD), (insF l x).Perm (x :: l)
  | [], x => .refl _
  | y :: l, x => by
    unfold insF
    split
    · exact ((insF_perm l x).cons y).trans (.swap x y l)
    · exact .refl _
theorem insF_len (l : List FD) (x : FD) : (insF l x).length = l.length + 1 := (insF_perm l x).length_eq
theorem insF_mem {l : List FD} {x y : FD} : y ∈ insF l x ↔ y = x ∨ y ∈ l := by rw [(insF_perm l x).mem_iff, List.mem_cons]
theorem insF_srt : ∀ {l : List FD} {x : FD}, srtF8 l → (∀ y ∈ l, ¬(y.num = x.num ∧ y.ag = x.ag)) → srtF8 (insF l x)
  | [], x, _, _ => List.pairwise_singleton _ _
  | y :: l, x, hs, hn => by
    obtain ⟨h1, h2⟩ := List.pairwise_cons.1 hs
    unfold insF
    split
    · rename_i hb
      refine List.pairwise_cons.2 ⟨fun z hz => ?_, insF_srt h2 fun z hz => hn z (.tail _ hz)⟩
      rcases insF_mem.1 hz with rfl | hz
      · exact hb
      · exact h1 z hz
    · rename_i hb
      have hxy : befF x y := (befF_or (hn y (.head _))).resolve_left hb
      refine List.pairwise_cons.2 ⟨fun z hz => ?_, hs⟩
      rcases List.mem_cons.1 hz with rfl | hz
      · exact hxy
      · exact befF_trans hxy (h1 z hz)
theorem insF_at {l : List FD} {x : FD} {n : Nat} (hn : n ≤ l.length) (h1 : ∀ i (hi : i < l.length), i < n → befF l[i] x) (h2 : ∀ i (hi : i < l.length), n ≤ i → ¬befF l[i] x) : insF l x = l.take n ++ x :: l.drop n := by
  induction l generalizing n with
  | nil => simp at hn; subst hn; rfl
  | cons y l ih =>
    unfold insF
    cases n with
    | zero =>
      have hb : ¬befF y x := h2 0 (by simp) (Nat.le_refl _)
      rw [if_neg hb]; rfl
    | succ n =>
      have hb : befF y x := h1 0 (by simp) (by omega)
      rw [if_pos hb, List.take_succ_cons, List.drop_succ_cons, List.cons_append]
      rw [ih (n := n) (by simp at hn; omega) (fun i hi hin => h1 (i + 1) (by simp; omega) (by omega)) (fun i hi hin => h2 (i + 1) (by simp; omega) (by omega))]
structure FsOK (fs : List FD) : Prop where
  srt : srtF8 fs
  rt : ∀ x ∈ fs, rightF x
  len : fs.length ≤ 5000
theorem FsOK.nil : FsOK [] := ⟨List.Pairwise.nil, fun x h => (by cases h), Nat.zero_le _⟩
theorem FsOK.take {fs : List FD} (h : FsOK fs) (x : FD) : FsOK (takeF fs x).2 := by
  unfold takeF
  split
  · exact h
  · rename_i hr
    split
    · exact h
    · split
      · exact h
      · rename_i ho
        split
        · exact h
        · rename_i hm
          refine ⟨insF_srt h.srt fun y hy he => ho ⟨y, hy, he⟩, fun y hy => ?_, by dsimp only; rw [insF_len]; omega⟩
          rcases insF_mem.1 hy with rfl | hy
          · exact Decidable.not_not.1 hr
          · exact h.rt y hy
theorem srtF8_key {fs : List FD} (hs : srtF8 fs) {x y : FD} (hx : x ∈ fs) (hy : y ∈ fs) (h : x.num = y.num ∧ x.ag = y.ag) : x = y := by
  obtain ⟨i, hi, rfl⟩ := List.getElem_of_mem hx
  obtain ⟨j, hj, rfl⟩ := List.getElem_of_mem hy
  rcases Nat.lt_trichotomy i j with hij | hij | hij
  · have := List.pairwise_iff_getElem.1 hs i j hi hj hij
    unfold befF at this; omega
  · subst hij; rfl
  · have := List.pairwise_iff_getElem.1 hs j i hj hi hij
    unfold befF at this; omega
end Go.PK

namespace Go.PK
open Go Go.RowKit Go.Maps
structure HM where
  g : HG
  p : Nat
  O : RowS
  S : RowS
def splC (q : ByteArray × Int) : List Value := [.string q.1, .int .i64 q.2]
def hmC (x : HM) : List Value := [.string x.g.name, .string (foldS x.g.name), rowV x.O x.g.oth.length, rowV x.S x.g.spl.length, .int .i64 x.g.into]
def othC (l : List ByteArray) : List Value := l.map fun s => Value.string (foldS s)
def hmOK (x : HM) : Prop := rowOK 1 x.O x.g.oth.length (othC x.g.oth) ∧ rowOK 2 x.S x.g.spl.length (x.g.spl.flatMap splC)
def lkM8 (hs : List HM) (id : Int) : Option HM := hs.find? (fun h => decide (h.g.id = id))
def hmM (hs : List HM) : Value → Option Value := fun v => match v with | .int .i64 id => (lkM8 hs id).map fun x => .pointer (some ⟨x.p, 0, none⟩) | _ => none
def gs8 (hs : List HM) : List HG := hs.map (·.g)
theorem lkM8_g (hs : List HM) (id : Int) : lkH (gs8 hs) id = (lkM8 hs id).map (·.g) := by
  unfold lkH gs8 lkM8
  rw [List.find?_map]; rfl
theorem lkM8_split {hs : List HM} {id : Int} {x : HM} (h : lkM8 hs id = some x) : ∃ a c, hs = a ++ x :: c ∧ x.g.id = id ∧ ∀ y ∈ a, y.g.id ≠ id := by
  unfold lkM8 at h
  obtain ⟨h1, a, c, h2, h3⟩ := List.find?_eq_some_iff_append.1 h
  exact ⟨a, c, h2, of_decide_eq_true h1, fun y hy => by have := h3 y hy; simpa using this⟩
theorem setH_split {a c : List HM} {x : HM} {g : HG} (h : ∀ y ∈ a, y.g.id ≠ g.id) (hx : x.g.id = g.id) : setH (gs8 (a ++ x :: c)) g = gs8 a ++ g :: gs8 c := by
  induction a with
  | nil => show setH (x.g :: gs8 c) g = _; rw [setH, if_pos hx]; rfl
  | cons y a ih =>
    show setH (y.g :: gs8 (a ++ x :: c)) g = _
    rw [setH, if_neg (h y (.head _)), ih fun z hz => h z (.tail _ hz)]; rfl
theorem hmM_set {a c : List HM} {x x' : HM} (hp : x'.p = x.p) (hi : x'.g.id = x.g.id) : hmM (a ++ x' :: c) = hmM (a ++ x :: c) := by
  funext v
  unfold hmM
  split
  · rename_i id
    unfold lkM8
    rw [List.find?_append, List.find?_append, List.find?_cons, List.find?_cons, hi]
    cases a.find? (fun h => decide (h.g.id = id)) with
    | some y => rfl
    | none =>
      dsimp only [Option.none_or]
      by_cases h : x.g.id = id
      · rw [decide_eq_true h]; simp only [Option.map_some, hp]
      · rw [decide_eq_false h]
  · rfl
theorem hmM_snoc {hs : List HM} {x : HM} (h : lkM8 hs x.g.id = none) : hmM (hs ++ [x]) = fupd (hmM hs) (.int .i64 x.g.id) (.pointer (some ⟨x.p, 0, none⟩)) := by
  funext v
  by_cases hv : v = .int .i64 x.g.id
  · subst hv
    rw [fupd_self]
    show (lkM8 (hs ++ [x]) x.g.id).map _ = _
    unfold lkM8 at h ⊢
    rw [List.find?_append, h, List.find?_cons]
    simp
  · rw [fupd_ne hv]
    unfold hmM
    split
    · rename_i id
      unfold lkM8
      rw [List.find?_append, List.find?_cons]
      have hne : ¬x.g.id = id := fun e => hv (by rw [e])
      rw [decide_eq_false hne]
      cases hs.find? (fun h => decide (h.g.id = id)) <;> rfl
    · rfl
section
variable {P : Program} {n : Nat} {l : List (Nat × Value)} {own : List (Nat × Obj)} {ro : List Snap} {lops : List Oper} {Q : Exit → Act → World → Prop} {K : Act → World → Prop}
  {rest : List (Option Bool × Nat)} {k : Option Bool} {i d : Nat} {op : Op} {ty : TypeId} {pos : String} {af : Array Edge} {x y m : Operand} {t kt e : TypeId} {b : Nat} {es : Array MapEntry} {clock : Nat} {f : Value → Option Value}
theorem x_insert {u v : Value} {lx : Lit} (l1 : List (Nat × Obj)) {l2 : List (Nat × Obj)} (ho : lops[i]? = some ⟨none, .insert t m x y, ty, pos, af, none⟩) (hm : ev l m = some (.map (some b))) (hx : ev l x = some u) (hy : ev l y = some v)
    (ht : P.underlying t = some (.map kt e)) (KK : Keyed P kt) (hkey : keyOf P kt u = some lx) (hown : own = l1 ++ (b, .map es clock) :: l2) (hf : MapF P kt es f)
    (h : ∀ es' clock', MapF P kt es' (fupd f u v) → WX P lops.toArray Q K rest n l (l1 ++ (b, .map es' clock') :: l2) ro) : WX P lops.toArray Q K ((none, i) :: rest) n l own ro := by
  subst hown
  intro a w ha hw
  have hw1 := go_none (lops := lops) (n := n) (l := l) (o := ⟨none, .insert t m x y, ty, pos, af, none⟩) rfl a ha
  simp only [wpX, List.getElem?_toArray, ho]
  intro w' hl
  rw [if_pos hw1]
  have hM := hw.later hl
  have hg : w'.heap[b]? = some (.map es clock) := hM.own_at (b, _) (by simp)
  have hrun : ∃ es' clock', MapF P kt es' (fupd f u v) ∧ (Instr.mapUpdate t (.map (some b)) u v).run P w' = .ok () { w' with heap := w'.heap.setIfInBounds b (.map es' clock') } := by
    rcases hf.find KK hkey w' with ⟨h1, h2⟩ | ⟨j, e0, h1, h2, h3, h4⟩
    · exact ⟨_, clock + 1, hf.push (v := v) (born := clock) hkey h2, by simp [Instr.mapUpdate, run_underlying ht, MapKept.run_getObj_map hg, KK.check w' false hkey, h1, MapKept.run_setObj_map _ hg, Result.andThen]⟩
    · refine ⟨_, clock, hf.put (v := v) hkey h2 h3, ?_⟩
      have hs : (Instr.keyThatStays (((es[j]?).map (·.key)).getD u) u).run P w' = .ok u w' := by
        rw [h2]; simp only [Option.map_some, Option.getD_some, h3]; exact KK.stays w' hkey
      simp only [Instr.mapUpdate, Sem.run_bind, run_underlying ht, Result.andThen_ok, MapKept.run_getObj_map hg, KK.check w' false hkey, h1, hs, MapKept.run_setObj_map _ hg]
  obtain ⟨es', clock', hf', hr⟩ := hrun
  unfold Oper.wp
  have hr2 : (execOp a.eval ⟨none, .insert t m x y, ty, pos, af, none⟩).run P w' = .ok .skip { w' with heap := w'.heap.setIfInBounds b (.map es' clock') } := by
    simp only [execOp, ha.eval hm, ha.eval hx, ha.eval hy, Sem.run_bind, hr, Result.andThen_ok, Sem.run_pure]
  rw [hr2]
  show wpX P lops.toArray Q K rest (a.put none undef) _
  exact h es' clock' hf' a _ ha (hM.turn (turned_obj hg))
end
end Go.PK

namespace Go.PK
open Go Go.RowKit Go.Maps
open Classical in
noncomputable def rchB (hs : List HG) (t id : Int) : Bool := decide (RchH hs t id)
theorem rchB_iff {hs : List HG} {t id : Int} : rchB hs t id = true ↔ RchH hs t id := by unfold rchB; simp
theorem rchB_no {hs : List HG} {t id : Int} : rchB hs t id = false ↔ ¬RchH hs t id := by unfold rchB; simp
theorem rchB_here {hs : List HG} {t : Int} : rchB hs t t = true := rchB_iff.2 .here
theorem rchB_step {hs : List HG} {t id : Int} {h : HG} (hl : lkH hs id = some h) (hne : id ≠ t) : rchB hs t id = (edges h).any (fun c => rchB hs t c) := by
  rw [Bool.eq_iff_iff, rchB_iff, List.any_eq_true]
  constructor
  · intro hr
    rcases RchH.iff.1 hr with h1 | ⟨g, h1, c, h2, h3⟩
    · exact absurd h1 hne
    · rw [hl] at h1; cases h1
      exact ⟨c, h2, rchB_iff.2 h3⟩
  · rintro ⟨c, h1, h2⟩
    exact .step hl h1 (rchB_iff.1 h2)
def seenOK (f : Value → Option Value) (G : Int → Prop) : Prop := ∀ v u, f v = some u → u = .bool true ∧ ∃ k, v = .int .i64 k ∧ G k
theorem seenOK.mono {f : Value → Option Value} {G G' : Int → Prop} (h : seenOK f G) (hg : ∀ k, G k → G' k) : seenOK f G' := fun v u hv => by
  obtain ⟨h1, k, h2, h3⟩ := h v u hv
  exact ⟨h1, k, h2, hg k h3⟩
theorem seenOK.none {G : Int → Prop} : seenOK (fun _ => none) G := fun v u h => by cases h
theorem seenOK.put {f : Value → Option Value} {G : Int → Prop} (h : seenOK f G) {id : Int} (hg : G id) : seenOK (fupd f (.int .i64 id) (.bool true)) G := fun v u hv => by
  by_cases he : v = .int .i64 id
  · subst he
    rw [fupd_self] at hv
    injection hv with hv
    exact ⟨hv.symm, id, rfl, hg⟩
  · rw [fupd_ne he] at hv
    exact h v u hv
def seenTo (hs : List HG) (t : Int) (f f' : Value → Option Value) : Prop := ∀ G : Int → Prop, seenOK f G → seenOK f' (fun k => ¬RchH hs t k ∨ G k)
theorem seenTo.refl {hs : List HG} {t : Int} {f : Value → Option Value} : seenTo hs t f f := fun G h => h.mono fun k hk => .inr hk
theorem seenTo.trans {hs : List HG} {t : Int} {f g h : Value → Option Value} (h1 : seenTo hs t f g) (h2 : seenTo hs t g h) : seenTo hs t f h := fun G hG =>
  (h2 _ (h1 G hG)).mono fun k hk => by rcases hk with hk | hk | hk <;> simp [hk]
theorem seenTo.put {hs : List HG} {t id : Int} {f g : Value → Option Value} (h : seenTo hs t (fupd f (.int .i64 id) (.bool true)) g) (hno : ¬RchH hs t id) : seenTo hs t f g := fun G hG =>
  (h (fun k => ¬RchH hs t k ∨ G k) ((hG.mono fun k hk => .inr hk).put (.inl hno))).mono fun k hk => by rcases hk with hk | hk | hk <;> simp [hk]
theorem seen_is {f : Value → Option Value} {G : Int → Prop} (h : seenOK f G) (id : Int) : (f (.int .i64 id)).getD (.bool false) = .bool (f (.int .i64 id)).isSome := by
  cases hf : f (.int .i64 id) with
  | none => rfl
  | some u => rw [(h _ _ hf).1]; rfl
theorem seen_at {f : Value → Option Value} {G : Int → Prop} (h : seenOK f G) {id : Int} (hs : (f (.int .i64 id)).isSome = true) : G id := by
  obtain ⟨u, hu⟩ := Option.isSome_iff_exists.1 hs
  obtain ⟨_, k, h2, h3⟩ := h _ _ hu
  injection h2 with _ h2
  rw [h2]; exact h3
theorem flatMap_two : ∀ (l : List (ByteArray × Int)), (l.flatMap splC).length = l.length * 2
  | [] => rfl
  | p :: l => by rw [List.flatMap_cons, List.length_append, flatMap_two l, List.length_cons]; show 2 + _ = _; omega
theorem spl_at : ∀ {l : List (ByteArray × Int)} {k i : Nat} (h : k < l.length), i < 2 → (l.flatMap splC)[k * 2 + i]? = (splC l[k])[i]?
  | p :: l, 0, i, _, hi => by
    rw [List.flatMap_cons, List.getElem?_append_left (by show 0 * 2 + i < 2; omega), Nat.zero_mul, Nat.zero_add]; rfl
  | p :: l, k + 1, i, h, hi => by
    rw [List.flatMap_cons, List.getElem?_append_right (by show 2 ≤ _; omega), show (k + 1) * 2 + i - (splC p).length = k * 2 + i by show _ - 2 = _; omega]
    exact spl_at (l := l) (by simpa using h) hi
end Go.PK

namespace Go.PK
open Go Go.RowKit Go.Maps
theorem acc_new {hs : List HG} {f : FD} (hk : f.kind = 1) : accS hs f = match lkH hs f.hd with | none => some (hs ++ [⟨f.hd, f.txt, [], [], 0⟩]) | some _ => none := by
  unfold accS
  cases lkH hs f.hd with
  | none => dsimp only; rw [if_pos hk]
  | some h => dsimp only; rw [if_pos hk]
theorem acc_dead {hs : List HG} {f : FD} (hk : f.kind ≠ 1) (h : ∀ g, lkH hs f.hd = some g → g.into ≠ 0) : accS hs f = none := by
  unfold accS
  cases hq : lkH hs f.hd with
  | none => dsimp only; rw [if_neg hk]
  | some g => dsimp only; rw [if_neg hk, if_pos (h g hq)]
theorem acc_name {hs : List HG} {f : FD} {g : HG} (hk : f.kind = 2) (hl : lkH hs f.hd = some g) (h0 : g.into = 0) : accS hs f = some (setH hs { g with name := f.txt, oth := g.oth ++ [g.name] }) := by
  unfold accS
  rw [hl]
  dsimp only
  rw [if_neg (by omega), if_neg (fun h => h h0), if_pos hk]
theorem acc_see {hs : List HG} {f : FD} {g : HG} (hk : f.kind = 3) (hl : lkH hs f.hd = some g) (h0 : g.into = 0) : accS hs f = some (setH hs { g with oth := g.oth ++ [f.txt] }) := by
  unfold accS
  rw [hl]
  dsimp only
  rw [if_neg (by omega), if_neg (fun h => h h0), if_neg (by omega), if_pos hk]
theorem acc_merge {hs : List HG} {f : FD} {g : HG} (hk : f.kind = 4) (hl : lkH hs f.hd = some g) (h0 : g.into = 0) (ht : (lkH hs f.to).isSome = true) (hn : rchB hs f.hd f.to = false) : accS hs f = some (setH hs { g with into := f.to }) := by
  unfold accS
  rw [hl]
  dsimp only
  rw [if_neg (by omega), if_neg (fun h => h h0), if_neg (by omega), if_neg (by omega), if_neg (fun h => by rw [h] at ht; cases ht), if_neg (rchB_no.1 hn), if_pos hk]
theorem acc_split {hs : List HG} {f : FD} {g : HG} (hk : f.kind = 5) (hl : lkH hs f.hd = some g) (h0 : g.into = 0) (ht : (lkH hs f.to).isSome = true) (hn : rchB hs f.hd f.to = false) : accS hs f = some (setH hs { g with spl := g.spl ++ [(foldS f.txt, f.to)] }) := by
  unfold accS
  rw [hl]
  dsimp only
  rw [if_neg (by omega), if_neg (fun h => h h0), if_neg (by omega), if_neg (by omega), if_neg (fun h => by rw [h] at ht; cases ht), if_neg (rchB_no.1 hn), if_neg (by omega)]
theorem acc_may {hs : List HG} {f : FD} (hk : 4 ≤ f.kind) (h : lkH hs f.to = none ∨ rchB hs f.hd f.to = true) : accS hs f = none := by
  unfold accS
  cases hq : lkH hs f.hd with
  | none => dsimp only; rw [if_neg (by omega)]
  | some g =>
    dsimp only
    rw [if_neg (by omega)]
    split
    · rfl
    rw [if_neg (by omega), if_neg (by omega)]
    rcases h with h | h
    · rw [if_pos h]
    · split
      · rfl
      · rw [if_pos (rchB_iff.1 h)]
structure bndS (M : Nat) (s : SG8) : Prop where
  hs : s.hs.length ≤ M
  oth : ∀ h ∈ s.hs, h.oth.length ≤ M ∧ h.spl.length ≤ M
  ref : s.ref.length ≤ M
theorem setH_len (hs : List HG) (h : HG) : (setH hs h).length = hs.length := by
  have := congrArg List.length (setH_ids (hs := hs) (h := h))
  rwa [List.length_map, List.length_map] at this
theorem bnd_acc {M : Nat} {hs hs' : List HG} {f : FD} (h1 : hs.length ≤ M) (h2 : ∀ h ∈ hs, h.oth.length ≤ M ∧ h.spl.length ≤ M) (ha : accS hs f = some hs') : hs'.length ≤ M + 1 ∧ ∀ h ∈ hs', h.oth.length ≤ M + 1 ∧ h.spl.length ≤ M + 1 := by
  have old : ∀ h ∈ hs, h.oth.length ≤ M + 1 ∧ h.spl.length ≤ M + 1 := fun h hh => by have := h2 h hh; omega
  unfold accS at ha
  cases hl : lkH hs f.hd with
  | none =>
    rw [hl] at ha
    dsimp only at ha
    split at ha
    · injection ha with ha
      subst ha
      refine ⟨by rw [List.length_append]; exact Nat.succ_le_succ h1, fun h hh => ?_⟩
      rcases List.mem_append.1 hh with hh | hh
      · exact old h hh
      · rw [List.mem_singleton.1 hh]; exact ⟨Nat.zero_le _, Nat.zero_le _⟩
    · cases ha
  | some g =>
    rw [hl] at ha
    have hg := h2 g (lkH_mem hl).1
    have key : ∀ g' : HG, g'.oth.length ≤ M + 1 ∧ g'.spl.length ≤ M + 1 → (setH hs g').length ≤ M + 1 ∧ ∀ h ∈ setH hs g', h.oth.length ≤ M + 1 ∧ h.spl.length ≤ M + 1 := fun g' h' =>
      ⟨by rw [setH_len]; omega, fun h hh => by
        rcases setH_mem hh with hh | rfl
        · exact old h hh
        · exact h'⟩
    dsimp only at ha
    split at ha
    · cases ha
    split at ha
    · cases ha
    split at ha
    · injection ha with ha; subst ha; exact key _ ⟨by dsimp only; rw [List.length_append]; exact Nat.succ_le_succ hg.1, by dsimp only; omega⟩
    split at ha
    · injection ha with ha; subst ha; exact key _ ⟨by dsimp only; rw [List.length_append]; exact Nat.succ_le_succ hg.1, by dsimp only; omega⟩
    split at ha
    · cases ha
    split at ha
    · cases ha
    split at ha
    · injection ha with ha; subst ha; exact key _ ⟨by dsimp only; omega, by dsimp only; omega⟩
    · injection ha with ha; subst ha; exact key _ ⟨by dsimp only; omega, by dsimp only; rw [List.length_append]; exact Nat.succ_le_succ hg.2⟩
theorem bndS.apply {M : Nat} {s : SG8} (h : bndS M s) (f : FD) : bndS (M + 1) (applyS s f) := by
  unfold applyS
  cases ha : accS s.hs f with
  | none => exact ⟨by have := h.hs; dsimp only; omega, fun g hg => by have := h.oth g hg; omega, by have := h.ref; dsimp only; rw [List.length_append]; exact Nat.succ_le_succ this⟩
  | some hs =>
    obtain ⟨h1, h2⟩ := bnd_acc h.hs h.oth ha
    exact ⟨h1, h2, by have := h.ref; dsimp only; omega⟩
theorem bnd_st : ∀ (fs : List FD) (M : Nat) (s : SG8), bndS M s → bndS (M + fs.length) (fs.foldl applyS s)
  | [], M, s, h => h
  | f :: l, M, s, h => by
    have := bnd_st l (M + 1) (applyS s f) (h.apply f)
    rw [List.length_cons, show M + (l.length + 1) = M + 1 + l.length by omega]
    exact this
theorem bnd_stF (fs : List FD) : bndS fs.length (stF fs) := by
  have := bnd_st fs 0 ⟨[], []⟩ ⟨Nat.zero_le _, fun h hh => (by cases hh), Nat.zero_le _⟩
  rwa [Nat.zero_add] at this
end Go.PK

namespace Go.PK
open Go Go.RowKit
section
variable {α : Type} {c : α → List Value} {m : Nat} (hc : ∀ x, (c x).length = m)
include hc
theorem flC_len (l : List α) : (l.flatMap c).length = l.length * m := by
  induction l with
  | nil => simp
  | cons x xs ih => rw [List.flatMap_cons, List.length_append, ih, List.length_cons, hc, Nat.add_mul, Nat.one_mul, Nat.add_comm]
theorem flC_take : ∀ (l : List α) (i : Nat), (l.flatMap c).take (i * m) = (l.take i).flatMap c
  | _, 0 => by simp
  | [], i + 1 => by simp
  | x :: xs, i + 1 => by
    rw [List.take_succ_cons, List.flatMap_cons, List.flatMap_cons, ← flC_take xs i, List.take_append, List.take_of_length_le (by rw [hc, Nat.add_mul]; omega), hc]
    rw [show (i + 1) * m - m = i * m by rw [Nat.add_mul]; omega]
theorem flC_drop : ∀ (l : List α) (i : Nat), (l.flatMap c).drop (i * m) = (l.drop i).flatMap c
  | _, 0 => by simp
  | [], i + 1 => by simp
  | x :: xs, i + 1 => by
    rw [List.drop_succ_cons, List.flatMap_cons, ← flC_drop xs i, List.drop_append, List.drop_of_length_le (by rw [hc, Nat.add_mul]; omega), hc]
    rw [show (i + 1) * m - m = i * m by rw [Nat.add_mul]; omega, List.nil_append]
theorem flC_at {es : List α} {cs : List Value} (h : cs.take (es.length * m) = es.flatMap c) {i : Nat} (hi : i ≤ es.length) : cs.take (i * m) = (es.take i).flatMap c := by
  rw [← flC_take hc, ← h, List.take_take, Nat.min_eq_left (Nat.mul_le_mul_right m hi)]
theorem flC_get {es : List α} {cs : List Value} (h : cs.take (es.length * m) = es.flatMap c) (hl : es.length * m ≤ cs.length) {i : Nat} (hi : i ≤ es.length) {j : Nat} (hj : j < ((es.drop i).flatMap c).length) : cs[i * m + j]? = some ((es.drop i).flatMap c)[j] := by
  have hlen : ((es.drop i).flatMap c).length = (es.length - i) * m := by rw [flC_len hc, List.length_drop]
  have hsub : (es.length - i) * m = es.length * m - i * m := Nat.sub_mul _ _ _
  have hle : i * m ≤ es.length * m := Nat.mul_le_mul_right m hi
  have e : ((es.drop i).flatMap c)[j]? = cs[i * m + j]? := by
    rw [← flC_drop hc, ← h, List.getElem?_drop, List.getElem?_take_of_lt (by omega)]
  rw [← e]; exact List.getElem?_eq_getElem hj
end
def fdsC (l : List FD) : List Value := l.flatMap FD.cells
theorem fdsC_len (l : List FD) : (fdsC l).length = l.length * 6 := flC_len (c := FD.cells) (fun _ => rfl) l
theorem fdsC_app (a b : List FD) : fdsC (a ++ b) = fdsC a ++ fdsC b := List.flatMap_append
theorem fdsC_one (l : List FD) : (fdsC l).all (fun u => u.oneCell') = true := by
  rw [List.all_eq_true]; intro u hu
  obtain ⟨x, _, hx⟩ := List.mem_flatMap.1 hu
  simp only [FD.cells, List.mem_cons, List.mem_nil_iff, or_false] at hx
  rcases hx with rfl | rfl | rfl | rfl | rfl | rfl <;> rfl
theorem fds_at {es : List FD} {cs : List Value} (h : cs.take (es.length * 6) = fdsC es) {i : Nat} (hi : i ≤ es.length) : cs.take (i * 6) = fdsC (es.take i) := flC_at (c := FD.cells) (fun _ => rfl) h hi
theorem fds_get {es : List FD} {cs : List Value} (h : cs.take (es.length * 6) = fdsC es) (hl : es.length * 6 ≤ cs.length) {i : Nat} (hi : i ≤ es.length) {j : Nat} (hj : j < (fdsC (es.drop i)).length) : cs[i * 6 + j]? = some (fdsC (es.drop i))[j] := flC_get (c := FD.cells) (fun _ => rfl) h hl hi hj
def sbsC (l : List Sb) : List Value := l.flatMap sbC
theorem sbsC_len (l : List Sb) : (sbsC l).length = l.length * 2 := flC_len (c := sbC) (fun _ => rfl) l
theorem sbsC_app (a b : List Sb) : sbsC (a ++ b) = sbsC a ++ sbsC b := List.flatMap_append
theorem sbsC_one' (l : List Sb) : (sbsC l).all (fun u => u.oneCell') = true := sbC_one l
theorem sbs_at {es : List Sb} {cs : List Value} (h : cs.take (es.length * 2) = sbsC es) {i : Nat} (hi : i ≤ es.length) : cs.take (i * 2) = sbsC (es.take i) := flC_at (c := sbC) (fun _ => rfl) h hi
theorem sbs_get {es : List Sb} {cs : List Value} (h : cs.take (es.length * 2) = sbsC es) (hl : es.length * 2 ≤ cs.length) {i : Nat} (hi : i ≤ es.length) {j : Nat} (hj : j < (sbsC (es.drop i)).length) : cs[i * 2 + j]? = some (sbsC (es.drop i))[j] := flC_get (c := sbC) (fun _ => rfl) h hl hi hj
end Go.PK

namespace Go.PK
open Go Go.RowKit
theorem run_copy_own {P : Program} (w : World) (dT sT ty elem : TypeId) (size : Nat) (g o dLen dCap : Nat) (a : Addr) (sLen sCap : Nat) (cur : Array Value) (t : TypeId) (cs : List Value)
    (hu : P.underlying dT = some (.slice elem)) (hs : (P.info? elem).map (·.size) = some size)
    (hg : w.heap[g]? = some (.cells cur t (0, 0))) (hn : cs.length = Nat.min sLen dLen * size)
    (hsrc : ∀ j v, cs[j]? = some v → w.cell? (a.add j) = some v) (hfit : o + cs.length ≤ cur.size) (h1 : ∀ v ∈ cs, v.oneCell' = true) :
    (Builtin.copy_ #[dT, sT] ty #[.slice (some ⟨g, o, none⟩) dLen dCap, .slice (some a) sLen sCap]).run P w =
      .ok (goInt (Nat.min sLen dLen)) (w.setRow g (cur.toList.take o ++ cs ++ cur.toList.drop (o + cs.length)).toArray) := by
  have hl := run_loadCells_list (P := P) w a cs hsrc
  have hst := run_storeCells_at P g o t cs 0 cur w hg (by simpa using hfit) h1
  cases hq : P.info? elem with
  | none => simp [hq] at hs
  | some i =>
    have hi : i.size = size := by simpa [hq] using hs
    have hn' : min sLen dLen * size = cs.length := hn.symm
    simp [Builtin.copy_, run_underlying hu, Builtin.lenOf, Builtin.firstCells, sizeOf, typeInfo, hq, hi, hn', hl, hst]
theorem Turned.row {w : World} {g : Nat} {cur row : Array Value} {t : TypeId} (hg : w.heap[g]? = some (.cells cur t (0, 0))) : Turned w (w.setRow g row) g (.cells row t (0, 0)) where
  os := rfl
  tape := rfl
  output := rfl
  size := by simp [World.setRow]
  at_ := setRow_heap w g cur row t _ hg
  other := fun k hk => by simp only [World.setRow]; rw [Array.getElem?_modify]; rw [if_neg (fun e => hk e.symm)]
section
variable {P : Program} {n : Nat} {l : List (Nat × Value)} {own : List (Nat × Obj)} {ro : List Snap} {lops : List Oper} {Q : Exit → Act → World → Prop} {K : Act → World → Prop}
  {rest : List (Option Bool × Nat)} {k : Option Bool} {i d : Nat} {op : Op} {ty : TypeId} {pos : String} {af : Array Edge} {x y z' : Operand} {t t1 t2 : TypeId}
theorem x_copy {e : TypeId} {size b o1 dl dc sb so sl sc m : Nat} {cs news : List Value} {te : TypeId} (l1 : List (Nat × Obj)) {l2 : List (Nat × Obj)} (ho : lops[i]? = some ⟨some d, .call ⟨.builtin .copy, #[x, y], #[t1, t2]⟩, ty, pos, af, none⟩) (hd : decide (d < n) = true)
    (hx : ev l x = some (.slice (some ⟨b, o1, none⟩) dl dc)) (hy : ev l y = some (.slice (some ⟨sb, so, none⟩) sl sc)) (hown : own = l1 ++ (b, .cells cs.toArray te (0, 0)) :: l2)
    (ht : P.underlying t1 = some (.slice e)) (hi : (P.info? e).map (·.size) = some size) (hmin : Nat.min sl dl = m)
    (hl : news.length = m * size) (hat : ∀ j (hj : j < news.length), At own ro sb (so + j) news[j]) (h1 : news.all (fun u => u.oneCell') = true) (hfit : o1 + news.length ≤ cs.length)
    (h : WX P lops.toArray Q K rest n ((d, .int .i64 (m : Nat)) :: l) (l1 ++ (b, .cells (cs.take o1 ++ news ++ cs.drop (o1 + news.length)).toArray te (0, 0)) :: l2) ro) : WX P lops.toArray Q K ((none, i) :: rest) n l own ro := by
  subst hmin
  intro a w ha hw
  have hd' : d < n := of_decide_eq_true hd
  have hw1 := go_none (lops := lops) (n := n) (l := l) (o := ⟨some d, .call ⟨.builtin .copy, #[x, y], #[t1, t2]⟩, ty, pos, af, none⟩) rfl a ha
  simp only [wpX, List.getElem?_toArray, ho]
  intro w' hl'
  rw [if_pos hw1]
  have hM := hw.later hl'
  have hnews : ∀ j u, news[j]? = some u → w'.cell? ((⟨sb, so, none⟩ : Addr).add j) = some u := fun j u hu => by
    obtain ⟨hj, rfl⟩ := List.getElem?_eq_some_iff.1 hu
    rw [mk_add]
    exact hat j hj w' hM
  have hb : w'.heap[b]? = some (.cells cs.toArray te (0, 0)) := hM.own_at (b, _) (by rw [hown]; simp)
  have hrun := run_copy_own (P := P) w' t1 t2 ty e size b o1 dl dc ⟨sb, so, none⟩ sl sc cs.toArray te news ht hi hb hl hnews (by simpa using hfit) (by simpa using h1)
  subst hown
  have hM2 := hM.turn (Turned.row (row := (cs.take o1 ++ news ++ cs.drop (o1 + news.length)).toArray) hb)
  unfold Oper.wp execOp
  simp only [resolve, invoke, builtin, Sem.run_bind, Sem.run_pure, Result.andThen_ok, List.map_toArray, List.map_cons, List.map_nil, ha.eval hx, ha.eval hy, hrun]
  exact h _ _ (ha.put _ hd') hM2
theorem x_turnV {τ : Type} {f : FuncId} {fn : Func} {xs : Array Operand} {tys : Array TypeId} {c : Operand} {vs : List Value} {fst cap : Array Value} (V : τ → Value) (R : τ → Prop) (O : τ → List (Nat × Obj)) (ho : lops[i]? = some ⟨some d, .call ⟨.value c, xs, tys⟩, ty, pos, af, none⟩) (hd : decide (d < n) = true)
    (hcal : ev l c = some (.func (.func f) fst cap)) (hf : P.funcs[f]? = some fn) (hbody : (!(fn.name == "runtime.NumGoroutine") && fn.body.isSome) = true) (hx : evs l xs.toList = some vs)
    (hc : ∀ w, Mem w own ro → Calls P f (fst ++ vs.toArray ++ cap) w fun e w' => ∃ x, e = .returned (V x) ∧ R x ∧ Mem w' (O x) ro)
    (h : ∀ x, R x → WX P lops.toArray Q K rest n ((d, V x) :: l) (O x) ro) : WX P lops.toArray Q K ((none, i) :: rest) n l own ro := by
  intro a w ha hw
  have hd' : d < n := of_decide_eq_true hd
  have hw1 := go_none (lops := lops) (n := n) (l := l) (o := ⟨some d, .call ⟨.value c, xs, tys⟩, ty, pos, af, none⟩) rfl a ha
  simp only [wpX, List.getElem?_toArray, ho]
  intro w' hl
  rw [if_pos hw1]
  unfold Oper.wp
  rw [run_callv rfl ha hcal hf hbody hx]
  refine Calls.mono (hc w' (hw.later hl)) fun e w2 he => ?_
  obtain ⟨x, rfl, hr, hm⟩ := he
  exact h x hr _ w2 (ha.put _ hd') hm
theorem x_append_zeros {e : TypeId} {z : Value} {size bytes m n0 c0 : Nat} {kq kn : IntKind} {A : Option Addr} {olds : List Value} (ho : lops[i]? = some ⟨some d, .call ⟨.builtin .append, #[x, y], #[t, t2]⟩, ty, pos, af, none⟩) (hd : decide (d < n) = true)
    (hx : ev l x = some (.slice A n0 c0)) (hy : ev l y = some (.int kq (m : Nat))) (hno : A = none → n0 = 0) (hm0 : 0 < m) (hroom : c0 < n0 + m)
    (holds : ∀ w, Mem w own ro → ∀ a, A = some a → ∀ j u, olds[j]? = some u → w.cell? (a.add j) = some u) (hlo : olds.length = n0 * size)
    (ht : P.underlying t = some (.slice e)) (htn : P.underlying t2 = some (.int kn)) (hi : (P.info? e).map (fun j => (j.zero, j.size, j.bytes)) = some (some z, size, bytes)) (hz : (decide (z.cells.size = size) && decide (0 < size)) = true)
    (hb1 : n0 + m ≤ maxLen) (hb2 : (n0 + m) * bytes ≤ 140737488355328)
    (h : ∀ (b : Nat) (cs : List Value) (cap : Nat), n0 + m ≤ cap → cap ≤ maxLen → cs.length = cap * size → cs.take (n0 * size) = olds → WX P lops.toArray Q K rest n ((d, .slice (some ⟨b, 0, none⟩) (n0 + m) cap) :: l) ((b, .cells cs.toArray e (0, 0)) :: own) ro) : WX P lops.toArray Q K ((none, i) :: rest) n l own ro := by
  intro a w ha hw
  have hd' : d < n := of_decide_eq_true hd
  have hw1 := go_none (lops := lops) (n := n) (l := l) (o := ⟨some d, .call ⟨.builtin .append, #[x, y], #[t, t2]⟩, ty, pos, af, none⟩) rfl a ha
  simp only [wpX, List.getElem?_toArray, ho]
  intro w' hl'
  rw [if_pos hw1]
  have hM := hw.later hl'
  obtain ⟨inf, hi1, hi2⟩ := Option.map_eq_some_iff.1 hi
  simp only [Prod.mk.injEq] at hi2
  obtain ⟨hiz, his, hib⟩ := hi2
  simp only [Bool.and_eq_true, decide_eq_true_eq] at hz
  subst his
  subst hib
  have hold : (Builtin.firstCells inf.size n0 (.slice A n0 c0)).run P w'.drew = .ok olds.toArray w'.drew := by
    cases A with
    | none =>
      obtain rfl := hno rfl
      obtain rfl : olds = [] := List.eq_nil_of_length_eq_zero (by rw [hlo, Nat.zero_mul])
      exact run_firstCells_none w'.drew inf.size 0 0 c0
    | some a0 => exact run_firstCells_some w'.drew inf.size n0 a0 n0 c0 olds hlo (by simpa using holds w' hM a0 rfl)
  have hmax : n0 + m ≤ 9223372036854775807 := by simp only [maxLen] at hb1; omega
  have hr := Lib.run_append_grow_zeros w' t t2 ty e inf z kq kn ht htn hi1 hiz A n0 c0 olds hold m hm0 hz.2 hroom (by omega) (by have := Nat.mul_le_mul_right inf.bytes (Nat.le_add_left m n0); omega) (growslice_fits hroom hb2)
  have hge := grownCap_ge w' (n0 + m) c0 e
  have hcm : grownCap w' (n0 + m) c0 e ≤ maxLen := grownCap_le_maxLen w' (n0 + m) c0 e hb1
  generalize grownCap w' (n0 + m) c0 e = cap at hr hge hcm
  have hM2 : Mem (w'.drew.alloc (.cells (olds.toArray ++ Builtin.zeroCells z.cells m ++ Builtin.zeroCells z.cells (cap - (n0 + m))) e)) ((w'.heap.size, .cells (olds ++ ((Builtin.zeroCells z.cells m ++ Builtin.zeroCells z.cells (cap - (n0 + m))).toList)).toArray e (0, 0)) :: own) ro := by
    have h3 := (hM.later (Later.drew w')).new (.cells (olds.toArray ++ Builtin.zeroCells z.cells m ++ Builtin.zeroCells z.cells (cap - (n0 + m))) e)
    have e1 : (olds ++ ((Builtin.zeroCells z.cells m ++ Builtin.zeroCells z.cells (cap - (n0 + m))).toList)).toArray = olds.toArray ++ Builtin.zeroCells z.cells m ++ Builtin.zeroCells z.cells (cap - (n0 + m)) := by
      apply Array.ext'
      simp
    rw [e1]
    exact h3
  unfold Oper.wp execOp
  simp only [resolve, invoke, builtin, Sem.run_bind, Sem.run_pure, Result.andThen_ok, List.map_toArray, List.map_cons, List.map_nil, ha.eval hx, ha.eval hy, hr]
  refine h w'.heap.size _ cap hge hcm ?_ ?_ _ _ (ha.put _ hd') hM2
  · simp only [List.length_append, Array.length_toList, Array.size_append, size_zeroCells, hz.1, hlo, ← Nat.add_mul]
    congr 1
    omega
  · rw [← hlo]; exact List.take_left
end
section
variable {P : Program} {n : Nat} {l : List (Nat × Value)} {own : List (Nat × Obj)} {ro : List Snap} {ty : TypeId} {x y : Operand} {t : TypeId}
theorem v_cap {e : TypeId} {A : Option Addr} {m c : Nat} (ht : P.underlying t = some (.slice e)) (hx : ev l x = some (.slice A m c)) : OpV P n l own ro (.call ⟨.builtin .cap, #[x], #[t]⟩) ty (.int .i64 c) := by
  intro a w o ha _ ho _
  simp [execOp, ho, resolve, invoke, builtin, ha.eval hx, Builtin.cap_, run_underlying ht, goInt]
theorem v_overlaps {f : FuncId} {fn : Func} {tys : Array TypeId} {tR e te1 te2 : TypeId} {size na nb oa ob la ca lb cb : Nat} {ca1 cb1 : List Value}
    (hf : P.funcs[f]? = some fn) (hname : (fn.name == "runtime.NumGoroutine") = false) (hb : fn.body.isNone = true) (hn : Extern.findNext fn = none) (he : Extern.find fn = some (Extern.SlicesOverlaps.overlaps #[t, t] #[tR]))
    (ht : P.underlying t = some (.slice e)) (hi : (P.info? e).map (·.size) = some size)
    (hx : ev l x = some (.slice (some ⟨na, oa, none⟩) la ca)) (hy : ev l y = some (.slice (some ⟨nb, ob, none⟩) lb cb)) (h1 : (na, Obj.cells ca1.toArray te1 (0, 0)) ∈ own) (h2 : (nb, Obj.cells cb1.toArray te2 (0, 0)) ∈ own) (hne : ∀ w, Mem w own ro → na ≠ nb) (h0 : cb1.length ≠ 0) :
    OpV P n l own ro (.call ⟨.value (.func f), #[x, y], tys⟩) ty (.bool false) := by
  intro a w o ha hw ho _
  have hq : a.eval (.func f) = .func (.func f) #[] #[] := rfl
  have hA := hw.own_at _ h1
  have hB := hw.own_at _ h2
  have h4 := Lib.run_overlaps_apart (P := P) w t tR e ht size (fun w => run_sizeOf hi) ⟨na, oa, none⟩ ⟨nb, ob, none⟩ la ca lb cb (hne w hw) te1 te2 ca1.length cb1.length
    (by simp [World.shape?, hA]) (by simp [World.shape?, hB]) h0 (by simp [World.frozen?, hA]) (by simp [World.frozen?, hA])
  simp [execOp, ho, resolve, hq, ha.eval hx, ha.eval hy, Deferred.ofValue, invoke, run_callFunc_extern hf hname hb hn he]
  rw [h4]
  rfl
theorem v_scut_fromB {e : TypeId} {len cap i m b o : Nat} {kk : IntKind} (ht : P.underlying t = some (.slice e)) (hs : (P.info? e).map (·.size) = some m) (hx : ev l x = some (.slice (some ⟨b, o, none⟩) len cap)) (hy : ev l y = some (.int kk (i : Nat))) (hi : i ≤ len) (hc : len ≤ cap) (hlt : i < cap) :
    OpV P n l own ro (.slice t x (some y) none none) ty (.slice (some ⟨b, o + i * m, none⟩) (len - i) (cap - i)) := by
  have h := v_scut_from (n := n) (own := own) (ro := ro) (ty := ty) ht hs hx hy hi hc
  rw [if_neg (by omega), Option.map_some, mk_add] at h
  exact h
end
end Go.PK

namespace Go.PK
open Go Go.RowKit
def ordF (a b : FD) : Int := if Lib.compareInt a.num b.num ≠ 0 then Lib.compareInt a.num b.num else Lib.compareInt a.ag b.ag
theorem ordF_lt {a b : FD} : ordF a b < 0 ↔ befF a b := by
  unfold ordF befF Lib.compareInt
  split <;> split <;> (repeat' split) <;> omega
theorem ordF_eq {a b : FD} : ordF a b = 0 ↔ a.num = b.num ∧ a.ag = b.ag := by
  unfold ordF Lib.compareInt
  split <;> split <;> (repeat' split) <;> omega
def posF (fs : List FD) (x : FD) : Nat := (fs.takeWhile (fun y => decide (befF y x))).length
def knwF (fs : List FD) (x : FD) : Bool := fs.any (fun y => decide (y.num = x.num ∧ y.ag = x.ag))
theorem posF_uniq : ∀ {fs : List FD} {x : FD} {n : Nat}, n ≤ fs.length → (∀ i (hi : i < fs.length), i < n → befF fs[i] x) → (∀ (h : n < fs.length), ¬befF fs[n] x) → posF fs x = n
  | [], x, n, hn, _, _ => by simp at hn; subst hn; rfl
  | y :: l, x, 0, _, _, h2 => by
    have hb : ¬befF y x := h2 (by simp)
    unfold posF
    rw [List.takeWhile_cons, decide_eq_false hb]; rfl
  | y :: l, x, n + 1, hn, h1, h2 => by
    have hb : befF y x := h1 0 (by simp) (by omega)
    unfold posF
    rw [List.takeWhile_cons, decide_eq_true hb]
    have := posF_uniq (fs := l) (x := x) (n := n) (by simpa using hn) (fun i hi hin => h1 (i + 1) (by simpa using hi) (by omega)) (fun h => h2 (by simpa using h))
    show (y :: _).length = _
    rw [List.length_cons]
    unfold posF at this
    rw [this]
theorem posF_le : ∀ (fs : List FD) (x : FD), posF fs x ≤ fs.length := fun fs x => by
  unfold posF
  exact (List.takeWhile_prefix _).length_le
theorem posF_bef : ∀ {fs : List FD} {x : FD} (i : Nat) (hi : i < fs.length), i < posF fs x → befF fs[i] x
  | y :: l, x, i, hi, h => by
    unfold posF at h
    rw [List.takeWhile_cons] at h
    by_cases hb : befF y x
    · rw [decide_eq_true hb] at h
      cases i with
      | zero => exact hb
      | succ i => exact posF_bef (fs := l) i (by simpa using hi) (by unfold posF; simpa using h)
    · rw [decide_eq_false hb] at h; simp at h
theorem posF_not : ∀ {fs : List FD} {x : FD}, srtF8 fs → ∀ i (hi : i < fs.length), posF fs x ≤ i → ¬befF fs[i] x
  | y :: l, x, hs, i, hi, h => by
    obtain ⟨h1, h2⟩ := List.pairwise_cons.1 hs
    unfold posF at h
    rw [List.takeWhile_cons] at h
    by_cases hb : befF y x
    · rw [decide_eq_true hb] at h
      cases i with
      | zero => simp at h
      | succ i => exact posF_not (fs := l) h2 i (by simpa using hi) (by unfold posF; simpa using h)
    · cases i with
      | zero => exact hb
      | succ i =>
        intro hc
        have hi2 : i < l.length := by simpa using hi
        have h3 := h1 l[i] (List.getElem_mem hi2)
        exact hb (befF_trans h3 hc)
theorem insF_pos {fs : List FD} (hs : srtF8 fs) (x : FD) : insF fs x = fs.take (posF fs x) ++ x :: fs.drop (posF fs x) :=
  insF_at (posF_le fs x) (fun i hi h => posF_bef i hi h) (fun i hi h => posF_not hs i hi h)
theorem bef_key {a b c : FD} (h : b.num = c.num ∧ b.ag = c.ag) : befF a b ↔ befF a c := by unfold befF; omega
theorem key_nbef {a b : FD} (h : a.num = b.num ∧ a.ag = b.ag) : ¬befF a b := by unfold befF; omega
theorem knw_at {fs : List FD} (hs : srtF8 fs) {x : FD} (hk : knwF fs x = true) : ∃ h : posF fs x < fs.length, fs[posF fs x].num = x.num ∧ fs[posF fs x].ag = x.ag := by
  obtain ⟨y, hy, hk⟩ := List.any_eq_true.1 hk
  have hk := of_decide_eq_true hk
  obtain ⟨q, hq, rfl⟩ := List.getElem_of_mem hy
  have : posF fs x = q := posF_uniq (Nat.le_of_lt hq) (fun i hi hiq => (bef_key hk).1 (List.pairwise_iff_getElem.1 hs i q hi hq hiq)) (fun h => key_nbef hk)
  subst this
  exact ⟨hq, hk⟩
theorem knw_is {fs : List FD} {x : FD} {h : posF fs x < fs.length} (hk : fs[posF fs x].num = x.num ∧ fs[posF fs x].ag = x.ag) : knwF fs x = true :=
  List.any_eq_true.2 ⟨_, List.getElem_mem h, decide_eq_true hk⟩
theorem take_arg {fs : List FD} {x : FD} (hr : ¬rightF x) : takeF fs x = (1, fs) := by unfold takeF; rw [if_pos hr]
theorem take_twice {fs : List FD} {x : FD} (hr : rightF x) (h : x ∈ fs) : takeF fs x = (22, fs) := by unfold takeF; rw [if_neg (fun h => h hr), if_pos h]
theorem take_old {fs : List FD} {x : FD} (hr : rightF x) (h : x ∉ fs) (hk : knwF fs x = true) : takeF fs x = (30, fs) := by
  unfold takeF
  rw [if_neg (fun h => h hr), if_neg h, if_pos]
  obtain ⟨y, hy, hk⟩ := List.any_eq_true.1 hk
  exact ⟨y, hy, of_decide_eq_true hk⟩
theorem knw_no {fs : List FD} {x : FD} (hk : knwF fs x = false) : ∀ y ∈ fs, ¬(y.num = x.num ∧ y.ag = x.ag) := fun y hy he => by
  have := List.any_eq_false.1 hk y hy
  exact this (decide_eq_true he)
theorem take_many {fs : List FD} {x : FD} (hr : rightF x) (hk : knwF fs x = false) (hm : 5000 ≤ fs.length) : takeF fs x = (2, fs) := by
  have hn := knw_no hk
  unfold takeF
  rw [if_neg (fun h => h hr), if_neg (fun h => hn x h ⟨rfl, rfl⟩), if_neg (fun ⟨y, hy, he⟩ => hn y hy he), if_pos hm]
theorem take_ok {fs : List FD} {x : FD} (hs : srtF8 fs) (hr : rightF x) (hk : knwF fs x = false) (hm : ¬5000 ≤ fs.length) : takeF fs x = (0, fs.take (posF fs x) ++ x :: fs.drop (posF fs x)) := by
  have hn := knw_no hk
  unfold takeF
  rw [if_neg (fun h => h hr), if_neg (fun h => hn x h ⟨rfl, rfl⟩), if_neg (fun ⟨y, hy, he⟩ => hn y hy he), if_neg hm, insF_pos hs]
theorem twice_iff {fs : List FD} (hs : srtF8 fs) {x : FD} (hk : knwF fs x = true) : x ∈ fs ↔ fs[posF fs x]? = some x := by
  obtain ⟨h, hk2⟩ := knw_at hs hk
  rw [List.getElem?_eq_getElem h]
  constructor
  · intro hx
    rw [srtF8_key hs (List.getElem_mem h) hx hk2]
  · intro he
    injection he with he
    rw [← he]; exact List.getElem_mem h
theorem fd_cell {R : RowS} {fs : List FD} (hR : rowOK 6 R fs.length (fdsC fs)) {k : Nat} (hk : k < fs.length) : ∃ g cs c, R = some (g, cs, c) ∧ fs.length ≤ c ∧ ∀ i, i < 6 → cs[k * 6 + i]? = (fs[k].cells)[i]? := by
  obtain ⟨g, cs, c, rfl, _⟩ := hR.cell (j := 0) (by rw [fdsC_len]; omega)
  obtain ⟨_, h2, _, h4, h5⟩ := hR
  dsimp only at h2 h4 h5
  refine ⟨g, cs, c, rfl, h2, fun i hi => ?_⟩
  have hlen : k * 6 + i < fs.length * 6 := by omega
  rw [← List.getElem?_take_of_lt hlen, h5]
  have key : ∀ (l : List FD) (k : Nat) (hk : k < l.length), (fdsC l)[k * 6 + i]? = (l[k].cells)[i]? := by
    intro l
    induction l with
    | nil => intro k hk; simp at hk
    | cons y l ih =>
      intro k hk
      cases k with
      | zero =>
        show (y.cells ++ fdsC l)[0 * 6 + i]? = _
        rw [List.getElem?_append_left (by show 0 * 6 + i < 6; omega), Nat.zero_mul, Nat.zero_add]; rfl
      | succ k =>
        show (y.cells ++ fdsC l)[(k + 1) * 6 + i]? = _
        rw [List.getElem?_append_right (by show 6 ≤ _; omega), show (k + 1) * 6 + i - y.cells.length = k * 6 + i by show _ - 6 = _; omega]
        exact ih k (by simpa using hk)
  exact key fs k hk
end Go.PK

namespace Go.PK
open Go Go.RowKit Go.Maps
structure FG where
  id : Int
  par : Int
  s : FSt
deriving DecidableEq
abbrev EN := Ord × Int
def lkF (fs : List FG) (id : Int) : Option FSt := (fs.find? (fun x => decide (x.id = id))).map (·.s)
def setF : List FG → Int → FSt → List FG
  | [], _, _ => []
  | x :: l, id, s => if x.id = id then { x with s := s } :: l else x :: setF l id s
def postG (R : FSt → Int → Int × FSt) (fs : List FG) (id n : Int) : Int × List FG :=
  match lkF fs id with
  | none => (32, fs)
  | some f => ((R f n).1, setF fs id (R f n).2)
def freeG (fs : List FG) (id : Int) : Int := match lkF fs id with | none => 0 | some f => f.free
def lkL (L : List EN) (id : Int) : Option EN := L.find? (fun x => decide (x.1.id = id))
def setL : List EN → EN → List EN
  | [], _ => []
  | x :: l, y => if x.1.id = y.1.id then y :: l else x :: setL l y
def insL : List EN → EN → List EN
  | [], y => [y]
  | x :: l, y => if x.1.id < y.1.id then x :: insL l y else y :: x :: l
structure SG where
  fs : List FG
  tol : Int
  L : List EN
deriving DecidableEq
def placeG (s : SG) (x : Ord) : Int × SG :=
  if writB x = false then (1, s) else if (lkL s.L x.id).isSome = true then (22, s)
  else if (postG encP s.fs x.fund (x.copies * x.price)).1 ≠ 0 then ((postG encP s.fs x.fund (x.copies * x.price)).1, s)
  else (0, ⟨(postG encP s.fs x.fund (x.copies * x.price)).2, s.tol, insL s.L (placedO x, x.price)⟩)
def moveG (fs : List FG) (id b n : Int) : Int × List FG := if n > b then postG encP fs id (n - b) else postG relP fs id (b - n)
def answerG (s : SG) (a : Ord) (e : Int) : Int × SG :=
  if e ≠ 0 then (e, s) else
  match lkL s.L a.id with
  | none => (32, s)
  | some (x, first) =>
    if x.st ≠ 0 ∨ x.paid ≠ 0 then (50, s)
    else if (x.fund ≠ a.fund ∨ ¬(x.src = a.src ∧ x.num = a.num)) ∨ a.copies > x.copies then (1, s)
    else if ¬nearP s.tol a.price first then (61, s)
    else if (moveG s.fs x.fund (resP x) (resP (answO x a))).1 ≠ 0 then ((moveG s.fs x.fund (resP x) (resP (answO x a))).1, s)
    else (0, ⟨(moveG s.fs x.fund (resP x) (resP (answO x a))).2, s.tol, setL s.L (answO x a, first)⟩)
def frG (fs : List FG) (fr : Int → Option Int) (id : Int) : Int := match fr id with | some v => v | none => freeG fs id
def frS (fr : Int → Option Int) (id v : Int) : Int → Option Int := fun j => if j = id then some v else fr j
def goI (tol : Int) (fs : List FG) : List EN → (Int → Option Int) → List Ord → Int × List EN
  | L, fr, [] => (0, L)
  | L, fr, ln :: ls =>
    match lkL L ln.id with
    | none => (32, L)
    | some (x, first) =>
      if checkP tol ln (some (x, first)) ≠ 0 then (checkP tol ln (some (x, first)), L)
      else if frG fs fr x.fund + ln.copies * (x.price - ln.price) < 0 then (60, L)
      else goI tol fs (setL L ({ x with paid := x.paid + ln.copies }, first)) (frS fr x.fund (frG fs fr x.fund + ln.copies * (x.price - ln.price))) ls
def pay1 (L : List EN) (fs : List FG) (ln : Ord) : List FG :=
  match lkL L ln.id with
  | none => fs
  | some (x, _) => (postG spdP (postG relP fs x.fund (ln.copies * x.price)).2 x.fund (ln.copies * ln.price)).2
def invoiceG (s : SG) (ls : List Ord) (e : Int) : Int × SG :=
  if e ≠ 0 then (e, s)
  else if (goI s.tol s.fs s.L (fun _ => none) ls).1 ≠ 0 then ((goI s.tol s.fs s.L (fun _ => none) ls).1, s)
  else (0, ⟨ls.foldl (pay1 s.L) s.fs, s.tol, (goI s.tol s.fs s.L (fun _ => none) ls).2⟩)
def ordN (x : Ord) : Prop := (0 ≤ x.price ∧ x.price ≤ 999999999) ∧ (1 ≤ x.copies ∧ x.copies ≤ 9999) ∧ (0 ≤ x.prom ∧ x.prom ≤ 9999) ∧ (0 ≤ x.paid ∧ x.paid ≤ 9999) ∧ (-1 ≤ x.st ∧ x.st ≤ 9999) ∧ (1 ≤ x.id ∧ x.id ≤ 999999999) ∧ (1 ≤ x.fund ∧ x.fund ≤ 999999999) ∧ (0 ≤ x.src ∧ x.src ≤ 999999999) ∧ (0 ≤ x.num ∧ x.num ≤ 999999999)
def enN (e : EN) : Prop := ordN e.1 ∧ 0 ≤ e.2 ∧ e.2 ≤ 999999999
def srtL (L : List EN) : Prop := L.Pairwise (fun a b => a.1.id < b.1.id)
structure SGok (s : SG) : Prop where
  fs : ∀ f ∈ s.fs, fundOK f.s
  tol : 0 ≤ s.tol ∧ s.tol ≤ 1000000
  L : ∀ e ∈ s.L, enN e
  srt : srtL s.L
theorem setF_mem : ∀ {fs : List FG} {id : Int} {s : FSt} {y : FG}, y ∈ setF fs id s → y ∈ fs ∨ y.s = s
  | [], _, _, _, h => .inl h
  | x :: l, id, s, y, h => by
    unfold setF at h
    split at h
    · rcases List.mem_cons.1 h with rfl | h
      · exact .inr rfl
      · exact .inl (.tail _ h)
    · rcases List.mem_cons.1 h with rfl | h
      · exact .inl (.head _)
      · rcases setF_mem h with h | h
        · exact .inl (.tail _ h)
        · exact .inr h
theorem lkF_mem {fs : List FG} {id : Int} {f : FSt} (h : lkF fs id = some f) : ∃ x ∈ fs, x.id = id ∧ x.s = f := by
  unfold lkF at h
  cases hq : fs.find? (fun x => decide (x.id = id)) with
  | none => rw [hq] at h; cases h
  | some x =>
    rw [hq] at h
    have h1 := List.find?_some hq
    have h2 := List.mem_of_find?_eq_some hq
    injection h with h
    exact ⟨x, h2, of_decide_eq_true h1, h⟩
theorem lkF_cons {x : FG} {l : List FG} {id : Int} : lkF (x :: l) id = if x.id = id then some x.s else lkF l id := by
  unfold lkF
  rw [List.find?_cons]
  by_cases h : x.id = id
  · rw [decide_eq_true h, if_pos h]; rfl
  · rw [decide_eq_false h, if_neg h]
theorem lkF_set : ∀ (fs : List FG) (id j : Int) (s : FSt), lkF (setF fs id s) j = if j = id then (lkF fs id).map (fun _ => s) else lkF fs j
  | [], id, j, s => by
    unfold setF lkF
    split <;> rfl
  | x :: l, id, j, s => by
    unfold setF
    by_cases h : x.id = id
    · rw [if_pos h, lkF_cons]
      dsimp only
      by_cases hj : j = id
      · rw [if_pos (h.trans hj.symm), if_pos hj, lkF_cons, if_pos h]; rfl
      · rw [if_neg (fun e => hj (e.symm.trans h)), if_neg hj, lkF_cons, if_neg (fun e => hj (e.symm.trans h))]
    · rw [if_neg h, lkF_cons, lkF_set l]
      by_cases hj : j = id
      · rw [if_pos hj, if_pos hj, if_neg (fun e => h (e.trans hj)), lkF_cons, if_neg h]
      · rw [if_neg hj, if_neg hj, lkF_cons]
theorem post_ok {R : FSt → Int → Int × FSt} (hR : ∀ f n, fundOK f → fundOK (R f n).2) {fs : List FG} {id n : Int} (h : ∀ f ∈ fs, fundOK f.s) : ∀ f ∈ (postG R fs id n).2, fundOK f.s := by
  intro f hf
  unfold postG at hf
  cases hl : lkF fs id with
  | none => rw [hl] at hf; exact h f hf
  | some g =>
    rw [hl] at hf
    obtain ⟨x, hx, _, rfl⟩ := lkF_mem hl
    rcases setF_mem hf with hf | hf
    · exact h f hf
    · rw [hf]; exact hR _ _ (h x hx)
theorem lkL_mem {L : List EN} {id : Int} {e : EN} (h : lkL L id = some e) : e ∈ L ∧ e.1.id = id := by
  have h1 := List.find?_some (p := fun x : EN => decide (x.1.id = id)) h
  exact ⟨List.mem_of_find?_eq_some h, of_decide_eq_true h1⟩
theorem lkL_cons {x : EN} {l : List EN} {id : Int} : lkL (x :: l) id = if x.1.id = id then some x else lkL l id := by
  unfold lkL
  rw [List.find?_cons]
  by_cases h : x.1.id = id
  · rw [decide_eq_true h, if_pos h]
  · rw [decide_eq_false h, if_neg h]
theorem lkL_set : ∀ (L : List EN) (y : EN) (j : Int), lkL (setL L y) j = if j = y.1.id then (lkL L j).map (fun _ => y) else lkL L j
  | [], y, j => by
    unfold setL lkL
    split <;> rfl
  | x :: l, y, j => by
    unfold setL
    by_cases h : x.1.id = y.1.id
    · rw [if_pos h, lkL_cons, lkL_cons]
      by_cases hj : j = y.1.id
      · rw [if_pos hj.symm, if_pos hj, if_pos (h.trans hj.symm)]; rfl
      · rw [if_neg (fun e => hj e.symm), if_neg hj, if_neg (fun e => hj (e.symm.trans h))]
    · rw [if_neg h, lkL_cons, lkL_set l, lkL_cons]
      by_cases hj : j = y.1.id
      · rw [if_pos hj, if_pos hj, if_neg (fun e => h (e.trans hj)), if_neg (fun e => h (e.trans hj))]
      · rw [if_neg hj, if_neg hj]
theorem setL_ids : ∀ (L : List EN) (y : EN), (setL L y).map (·.1.id) = L.map (·.1.id)
  | [], _ => rfl
  | x :: l, y => by
    unfold setL
    split
    · rename_i h
      rw [List.map_cons, List.map_cons, h]
    · rw [List.map_cons, List.map_cons, setL_ids l]
theorem setL_mem : ∀ {L : List EN} {y e : EN}, e ∈ setL L y → e ∈ L ∨ e = y
  | [], _, _, h => .inl h
  | x :: l, y, e, h => by
    unfold setL at h
    split at h
    · rcases List.mem_cons.1 h with rfl | h
      · exact .inr rfl
      · exact .inl (.tail _ h)
    · rcases List.mem_cons.1 h with rfl | h
      · exact .inl (.head _)
      · rcases setL_mem h with h | h
        · exact .inl (.tail _ h)
        · exact .inr h
theorem insL_mem : ∀ {L : List EN} {y e : EN}, e ∈ insL L y ↔ e ∈ L ∨ e = y
  | [], y, e => by unfold insL; simp
  | x :: l, y, e => by
    unfold insL
    split
    · rw [List.mem_cons, insL_mem (L := l), List.mem_cons, or_assoc]
    · rw [List.mem_cons, or_comm]
theorem srt_ids {L M : List EN} (h : L.map (·.1.id) = M.map (·.1.id)) (hs : srtL L) : srtL M := by
  have h1 : (L.map (·.1.id)).Pairwise (· < ·) := List.pairwise_map.2 hs
  rw [h] at h1
  exact List.pairwise_map.1 h1
theorem srt_set {L : List EN} (hs : srtL L) (y : EN) : srtL (setL L y) := srt_ids (setL_ids L y).symm hs
theorem srt_ins : ∀ {L : List EN} {y : EN}, srtL L → lkL L y.1.id = none → srtL (insL L y)
  | [], y, _, _ => List.pairwise_singleton _ _
  | x :: l, y, hs, h => by
    rw [lkL_cons] at h
    by_cases hx : x.1.id = y.1.id
    · rw [if_pos hx] at h; cases h
    rw [if_neg hx] at h
    obtain ⟨h1, h2⟩ := List.pairwise_cons.1 hs
    unfold insL
    by_cases hl : x.1.id < y.1.id
    · rw [if_pos hl]
      refine List.pairwise_cons.2 ⟨fun e he => ?_, srt_ins h2 h⟩
      rcases insL_mem.1 he with he | rfl
      · exact h1 e he
      · exact hl
    · rw [if_neg hl]
      refine List.pairwise_cons.2 ⟨fun e he => ?_, hs⟩
      have hyx : y.1.id < x.1.id := by omega
      rcases List.mem_cons.1 he with rfl | he
      · exact hyx
      · exact Int.lt_trans hyx (h1 e he)
theorem SGok.at {s : SG} (h : SGok s) {id : Int} {x : Ord} {first : Int} (hl : lkL s.L id = some (x, first)) : ordN x ∧ 0 ≤ first ∧ first ≤ 999999999 := h.L _ (lkL_mem hl).1
theorem SGok.set {s : SG} (h : SGok s) {fs : List FG} {e : EN} (hf : ∀ f ∈ fs, fundOK f.s) (he : enN e) : SGok ⟨fs, s.tol, setL s.L e⟩ :=
  ⟨hf, h.tol, fun y hy => by rcases setL_mem hy with hy | rfl; (· exact h.L y hy); exact he, srt_set h.srt e⟩
theorem writ_ordN {x : Ord} (h : writB x = true) : ordN (placedO x) ∧ 0 ≤ x.price ∧ x.price ≤ 999999999 := by
  have := (writB_iff x).1 h
  unfold wrO at this
  refine ⟨?_, this.2.2.2.2.1⟩
  unfold ordN placedO
  dsimp only
  omega
theorem move_ok {fs : List FG} {id b n : Int} (h : ∀ f ∈ fs, fundOK f.s) : ∀ f ∈ (moveG fs id b n).2, fundOK f.s := by
  unfold moveG
  split
  · exact post_ok (fun f n => enc_ok) h
  · exact post_ok (fun f n => rel_ok) h
theorem place_ok {s : SG} (h : SGok s) (x : Ord) : SGok (placeG s x).2 := by
  unfold placeG
  by_cases h1 : writB x = false
  · rw [if_pos h1]; exact h
  rw [if_neg h1]
  by_cases h2 : (lkL s.L x.id).isSome = true
  · rw [if_pos h2]; exact h
  rw [if_neg h2]
  split
  · exact h
  · have hw := writ_ordN (x := x) (by simpa using h1)
    have hn : lkL s.L x.id = none := by simpa using h2
    refine ⟨post_ok (fun f n => enc_ok) h.fs, h.tol, fun y hy => ?_, srt_ins h.srt hn⟩
    rcases insL_mem.1 hy with hy | rfl
    · exact h.L y hy
    · exact hw
theorem answ_ordN {x a : Ord} (hx : ordN x) (h1 : 0 ≤ a.price ∧ a.price ≤ 999999999) (h2 : 0 ≤ a.copies ∧ a.copies ≤ 9999) : ordN (answO x a) := by
  obtain ⟨_, o3, _, o7, o9, o11, o12, o13, o14⟩ := hx
  exact ⟨h1, o3, h2, o7, o9, o11, o12, o13, o14⟩
theorem answer_ok {s : SG} (h : SGok s) {a : Ord} {e : Int} (h1 : 0 ≤ a.price ∧ a.price ≤ 999999999) (h2 : 0 ≤ a.copies ∧ a.copies ≤ 9999) : SGok (answerG s a e).2 := by
  unfold answerG
  split
  · exact h
  · split
    · exact h
    · rename_i x first hl
      obtain ⟨hx, hf⟩ := h.at hl
      split
      · exact h
      · split
        · exact h
        · split
          · exact h
          · split
            · exact h
            · exact h.set (move_ok h.fs) ⟨answ_ordN hx h1 h2, hf⟩
theorem paid_ordN {x : Ord} {n : Int} (hx : ordN x) (h : 0 ≤ n ∧ n ≤ x.st - x.paid) : ordN { x with paid := x.paid + n } := by
  unfold ordN at hx ⊢
  dsimp only
  omega
theorem check_le {tol : Int} {ln x : Ord} {first : Int} (h : checkP tol ln (some (x, first)) = 0) : ln.copies ≤ x.st - x.paid ∧ x.st ≠ -1 := by
  unfold checkP at h
  dsimp only at h
  split at h
  · cases h
  · split at h
    · cases h
    · split at h
      · cases h
      · rename_i h1 _ h2
        exact ⟨by omega, h1⟩
theorem pay1_ok {L : List EN} {fs : List FG} {ln : Ord} (h : ∀ f ∈ fs, fundOK f.s) : ∀ f ∈ pay1 L fs ln, fundOK f.s := by
  unfold pay1
  split
  · exact h
  · exact post_ok (fun f n => spd_ok) (post_ok (fun f n => rel_ok) h)
structure FM where
  g : FG
  p : Nat
  bel : Value
end Go.PK

namespace Go.PK
open Go Go.RowKit Go.Maps
def fgN (f : FG) : Prop := (1 ≤ f.id ∧ f.id ≤ 9223372036854775807) ∧ (0 ≤ f.par ∧ f.par ≤ 9223372036854775807) ∧ fundOK f.s
end Go.PK

namespace Go.PK
open Go Go.RowKit Go.Maps
def trm (id : Int) (e : EN) : Int := if e.1.fund = id then resP e.1 else 0
def sumR : List EN → Int → Int
  | [], _ => 0
  | e :: l, id => trm id e + sumR l id
theorem sumR_ins : ∀ (L : List EN) (y : EN) (id : Int), sumR (insL L y) id = sumR L id + trm id y
  | [], y, id => by unfold insL sumR; show trm id y + sumR [] id = sumR [] id + _; omega
  | x :: l, y, id => by
    unfold insL
    split
    · show trm id x + sumR (insL l y) id = trm id x + sumR l id + _
      rw [sumR_ins l]; omega
    · show trm id y + (trm id x + sumR l id) = trm id x + sumR l id + _
      omega
theorem sumR_set : ∀ (L : List EN) (y e : EN) (id : Int), lkL L y.1.id = some e → sumR (setL L y) id = sumR L id - trm id e + trm id y
  | [], y, e, id, h => by cases h
  | x :: l, y, e, id, h => by
    rw [lkL_cons] at h
    unfold setL
    by_cases hx : x.1.id = y.1.id
    · rw [if_pos hx] at h ⊢
      injection h with h
      subst h
      show trm id y + sumR l id = trm id x + sumR l id - trm id x + _
      omega
    · rw [if_neg hx] at h ⊢
      show trm id x + sumR (setL l y) id = trm id x + sumR l id - _ + _
      rw [sumR_set l y e id h]; omega
def balO (x : Ord) : Prop := x.paid ≤ x.prom ∧ x.prom ≤ x.copies ∧ (x.st = -1 → x.prom = x.paid) ∧ (x.st ≠ -1 → x.paid ≤ x.st ∧ x.st ≤ x.prom)
structure INV (s : SG) : Prop where
  ok : SGok s
  bal : ∀ e ∈ s.L, balO e.1
  en : ∀ id f, lkF s.fs id = some f → f.en = sumR s.L id
  has : ∀ e ∈ s.L, (lkF s.fs e.1.fund).isSome = true
theorem res_nn {x : Ord} (h : ordN x) (hb : balO x) : 0 ≤ resP x := by
  unfold resP
  exact Int.mul_nonneg (by have := hb.1; omega) h.1.1
theorem trm_nn {e : EN} {id : Int} (h : ordN e.1) (hb : balO e.1) : 0 ≤ trm id e := by
  unfold trm
  split
  · exact res_nn h hb
  · exact Int.le_refl _
theorem sumR_nn : ∀ {L : List EN} (id : Int), (∀ e ∈ L, ordN e.1 ∧ balO e.1) → 0 ≤ sumR L id
  | [], _, _ => Int.le_refl _
  | x :: l, id, h => by
    have h1 := trm_nn (id := id) (h x (.head _)).1 (h x (.head _)).2
    have h2 := sumR_nn (L := l) id fun e he => h e (.tail _ he)
    show 0 ≤ trm id x + sumR l id
    omega
theorem sumR_ge : ∀ {L : List EN} {e : EN} (id : Int), e ∈ L → (∀ e ∈ L, ordN e.1 ∧ balO e.1) → trm id e ≤ sumR L id
  | x :: l, e, id, he, h => by
    have h1 := trm_nn (id := id) (h x (.head _)).1 (h x (.head _)).2
    have h2 := sumR_nn (L := l) id fun e he => h e (.tail _ he)
    show _ ≤ trm id x + sumR l id
    rcases List.mem_cons.1 he with rfl | he
    · omega
    · have := sumR_ge (L := l) id he fun e he => h e (.tail _ he)
      omega
theorem INV.both {s : SG} (h : INV s) : ∀ e ∈ s.L, ordN e.1 ∧ balO e.1 := fun e he => ⟨(h.ok.L e he).1, h.bal e he⟩
theorem INV.set {s : SG} (h : INV s) {x y : Ord} {first : Int} {fs : List FG} (hl : lkL s.L y.id = some (x, first)) (hf : y.fund = x.fund) (hok : SGok ⟨fs, s.tol, setL s.L (y, first)⟩) (hb : balO y)
    (hen : ∀ id f, lkF fs id = some f → ∃ g, lkF s.fs id = some g ∧ f.en = g.en + (if id = x.fund then resP y - resP x else 0)) (hhas : ∀ id, (lkF fs id).isSome = (lkF s.fs id).isSome) : INV ⟨fs, s.tol, setL s.L (y, first)⟩ := by
  refine ⟨hok, fun e he => ?_, fun id f hlf => ?_, fun e he => ?_⟩
  · rcases setL_mem he with he | rfl
    · exact h.bal e he
    · exact hb
  · obtain ⟨g, h1, h2⟩ := hen id f hlf
    show _ = sumR (setL s.L (y, first)) id
    rw [sumR_set s.L (y, first) (x, first) id hl, h2, h.en id g h1]
    unfold trm
    dsimp only
    rw [hf]
    by_cases hi : x.fund = id
    · rw [if_pos hi.symm, if_pos hi, if_pos hi]; omega
    · rw [if_neg (fun e => hi e.symm), if_neg hi, if_neg hi]; omega
  · rw [hhas]
    rcases setL_mem he with he | rfl
    · exact h.has e he
    · show (lkF s.fs y.fund).isSome = true
      rw [hf]
      exact h.has _ (lkL_mem hl).1
theorem post_has (R : FSt → Int → Int × FSt) (fs : List FG) (id n j : Int) : (lkF (postG R fs id n).2 j).isSome = (lkF fs j).isSome := by
  unfold postG
  cases hl : lkF fs id with
  | none => rfl
  | some f =>
    dsimp only
    rw [lkF_set]
    split
    · rename_i h; rw [h, hl]; rfl
    · rfl
theorem post_en {R : FSt → Int → Int × FSt} {d : Int} {fs : List FG} {id n : Int} (hR : ∀ f, (R f n).1 = 0 → (R f n).2.en = f.en + d) (h0 : (postG R fs id n).1 = 0) :
    ∀ j f, lkF (postG R fs id n).2 j = some f → ∃ g, lkF fs j = some g ∧ f.en = g.en + (if j = id then d else 0) := by
  intro j f hj
  unfold postG at hj h0
  cases hl : lkF fs id with
  | none => rw [hl] at h0; cases h0
  | some g =>
    rw [hl] at hj h0
    dsimp only at hj h0
    rw [lkF_set] at hj
    by_cases hji : j = id
    · rw [if_pos hji, hl] at hj
      injection hj with hj
      subst hj
      exact ⟨g, by rw [hji, hl], by rw [if_pos hji]; exact hR g h0⟩
    · rw [if_neg hji] at hj
      exact ⟨f, hj, by rw [if_neg hji, Int.add_zero]⟩
theorem encP_0 {f : FSt} {n : Int} (h : (encP f n).1 = 0) : (encP f n).2.en = f.en + n ∧ 0 ≤ n ∧ n ≤ f.free := by
  unfold encP at h ⊢
  by_cases h1 : n < 0
  · rw [if_pos h1] at h; cases h
  · rw [if_neg h1] at h ⊢
    by_cases h2 : n > f.free
    · rw [if_pos h2] at h; cases h
    · rw [if_neg h2]; exact ⟨rfl, by omega, by omega⟩
theorem relP_0 {f : FSt} {n : Int} (h : (relP f n).1 = 0) : (relP f n).2.en = f.en + -n ∧ 0 ≤ n ∧ n ≤ f.en := by
  unfold relP at h ⊢
  by_cases h1 : n < 0
  · rw [if_pos h1] at h; cases h
  · rw [if_neg h1] at h ⊢
    by_cases h2 : n > f.en
    · rw [if_pos h2] at h; cases h
    · rw [if_neg h2]; exact ⟨rfl, by omega, by omega⟩
theorem move_en {fs : List FG} {id b n : Int} (h0 : (moveG fs id b n).1 = 0) : ∀ j f, lkF (moveG fs id b n).2 j = some f → ∃ g, lkF fs j = some g ∧ f.en = g.en + (if j = id then n - b else 0) := by
  unfold moveG at h0 ⊢
  by_cases hn : n > b
  · rw [if_pos hn] at h0 ⊢
    exact post_en (fun f hf => (encP_0 hf).1) h0
  · rw [if_neg hn] at h0 ⊢
    refine post_en (fun f hf => ?_) h0
    rw [(relP_0 hf).1]; omega
theorem move_has (fs : List FG) (id b n j : Int) : (lkF (moveG fs id b n).2 j).isSome = (lkF fs j).isSome := by
  unfold moveG
  split
  · exact post_has _ _ _ _ _
  · exact post_has _ _ _ _ _
theorem INV.place {s : SG} (h : INV s) (x : Ord) : INV (placeG s x).2 := by
  have hok := place_ok h.ok x
  unfold placeG at hok ⊢
  by_cases h1 : writB x = false
  · rw [if_pos h1]; exact h
  rw [if_neg h1] at hok ⊢
  by_cases h2 : (lkL s.L x.id).isSome = true
  · rw [if_pos h2]; exact h
  rw [if_neg h2] at hok ⊢
  by_cases h3 : (postG encP s.fs x.fund (x.copies * x.price)).1 ≠ 0
  · rw [if_pos h3]; exact h
  rw [if_neg h3] at hok ⊢
  have h0 := Decidable.of_not_not h3
  have hw := (writ_ordN (x := x) (by simpa using h1)).1
  have hre : resP (placedO x) = x.copies * x.price := by show (x.copies - 0) * x.price = _; rw [Int.sub_zero]
  refine ⟨hok, fun e he => ?_, fun id f hlf => ?_, fun e he => ?_⟩
  · rcases insL_mem.1 he with he | rfl
    · exact h.bal e he
    · unfold ordN placedO at hw
      unfold balO placedO
      dsimp only at hw ⊢
      omega
  · obtain ⟨g, h4, h5⟩ := post_en (fun f hf => (encP_0 hf).1) h0 id f hlf
    show _ = sumR (insL s.L (placedO x, x.price)) id
    rw [sumR_ins, h5, h.en id g h4]
    unfold trm
    show _ = sumR s.L id + (if x.fund = id then resP (placedO x) else 0)
    rw [hre]
    by_cases hi : x.fund = id
    · rw [if_pos hi.symm, if_pos hi]
    · rw [if_neg (fun e => hi e.symm), if_neg hi]
  · show (lkF (postG encP s.fs x.fund (x.copies * x.price)).2 e.1.fund).isSome = true
    rw [post_has]
    rcases insL_mem.1 he with he | rfl
    · exact h.has e he
    · show (lkF s.fs x.fund).isSome = true
      unfold postG at h0
      cases hl : lkF s.fs x.fund with
      | none => rw [hl] at h0; cases h0
      | some f => rfl
theorem INV.answer {s : SG} (h : INV s) {a : Ord} {e : Int} (k1 : 0 ≤ a.price ∧ a.price ≤ 999999999) (k2 : 0 ≤ a.copies ∧ a.copies ≤ 9999) : INV (answerG s a e).2 := by
  have hok := answer_ok h.ok (e := e) k1 k2
  unfold answerG at hok ⊢
  by_cases he : e ≠ 0
  · rw [if_pos he]; exact h
  rw [if_neg he] at hok ⊢
  cases hl : lkL s.L a.id with
  | none => exact h
  | some z =>
    obtain ⟨x, first⟩ := z
    rw [hl] at hok
    dsimp only at hok ⊢
    by_cases h1 : x.st ≠ 0 ∨ x.paid ≠ 0
    · rw [if_pos h1]; exact h
    rw [if_neg h1] at hok ⊢
    by_cases h2 : (x.fund ≠ a.fund ∨ ¬(x.src = a.src ∧ x.num = a.num)) ∨ a.copies > x.copies
    · rw [if_pos h2]; exact h
    rw [if_neg h2] at hok ⊢
    by_cases h3 : ¬nearP s.tol a.price first
    · rw [if_pos h3]; exact h
    rw [if_neg h3] at hok ⊢
    by_cases h4 : (moveG s.fs x.fund (resP x) (resP (answO x a))).1 ≠ 0
    · rw [if_pos h4]; exact h
    rw [if_neg h4] at hok ⊢
    have h0 := Decidable.of_not_not h4
    have hid := (lkL_mem hl).2
    have hb := h.bal _ (lkL_mem hl).1
    refine h.set (x := x) (y := answO x a) (show lkL s.L x.id = _ by rw [show x.id = a.id from hid]; exact hl) rfl hok ?_ (fun j f hj => move_en h0 j f hj) (fun j => move_has _ _ _ _ _)
    unfold balO answO
    dsimp only
    omega
def payR (tol : Int) : List FG → List EN → List Ord → Int × List FG × List EN
  | fs, L, [] => (0, fs, L)
  | fs, L, ln :: ls =>
    match lkL L ln.id with
    | none => (32, fs, L)
    | some (x, first) =>
      if checkP tol ln (some (x, first)) ≠ 0 then (checkP tol ln (some (x, first)), fs, L)
      else if (postG relP fs x.fund (ln.copies * x.price)).1 ≠ 0 then ((postG relP fs x.fund (ln.copies * x.price)).1, fs, L)
      else if (postG spdP (postG relP fs x.fund (ln.copies * x.price)).2 x.fund (ln.copies * ln.price)).1 ≠ 0 then ((postG spdP (postG relP fs x.fund (ln.copies * x.price)).2 x.fund (ln.copies * ln.price)).1, fs, L)
      else payR tol (postG spdP (postG relP fs x.fund (ln.copies * x.price)).2 x.fund (ln.copies * ln.price)).2 (setL L ({ x with paid := x.paid + ln.copies }, first)) ls
def invoiceR (s : SG) (ls : List Ord) (e : Int) : Int × SG :=
  if e ≠ 0 then (e, s)
  else if (payR s.tol s.fs s.L ls).1 ≠ 0 then ((payR s.tol s.fs s.L ls).1, s)
  else (0, ⟨(payR s.tol s.fs s.L ls).2.1, s.tol, (payR s.tol s.fs s.L ls).2.2⟩)
def sameP (L M : List EN) : Prop := ∀ id, (lkL L id).map (fun e => (e.1.fund, e.1.price)) = (lkL M id).map (fun e => (e.1.fund, e.1.price))
theorem one_line {f : FSt} {c p q : Int} (hf : fundOK f) (hc : 1 ≤ c) (hp : 0 ≤ p) (hq : 0 ≤ q) (he : c * p ≤ f.en) :
    (relP f (c * p)).1 = 0 ∧ ((spdP (relP f (c * p)).2 (c * q)).1 ≠ 0 ↔ f.free + c * (p - q) < 0) ∧ ((spdP (relP f (c * p)).2 (c * q)).1 ≠ 0 → (spdP (relP f (c * p)).2 (c * q)).1 = 60) ∧
    ((spdP (relP f (c * p)).2 (c * q)).1 = 0 → (spdP (relP f (c * p)).2 (c * q)).2.free = f.free + c * (p - q) ∧ (spdP (relP f (c * p)).2 (c * q)).2.en = f.en - c * p) := by
  have h1 : 0 ≤ c * p := Int.mul_nonneg (by omega) hp
  have h2 : 0 ≤ c * q := Int.mul_nonneg (by omega) hq
  have e1 : relP f (c * p) = (0, { f with en := f.en - c * p }) := by unfold relP; rw [if_neg (by omega), if_neg (by omega)]
  have e2 : c * (p - q) = c * p - c * q := Int.mul_sub c p q
  rw [e1, e2]
  refine ⟨rfl, ?_, ?_, ?_⟩ <;> (unfold spdP FSt.free; dsimp only; rw [if_neg (by omega)])
  · by_cases h3 : c * q > f.al - f.sp - (f.en - c * p)
    · rw [if_pos h3]; constructor
      · intro _; omega
      · intro _ h; cases h
    · rw [if_neg h3]; constructor
      · intro h; exact absurd rfl h
      · intro h; omega
  · by_cases h3 : c * q > f.al - f.sp - (f.en - c * p)
    · rw [if_pos h3]; exact fun _ => rfl
    · rw [if_neg h3]; exact fun h => absurd rfl h
  · by_cases h3 : c * q > f.al - f.sp - (f.en - c * p)
    · rw [if_pos h3]; intro h; cases h
    · rw [if_neg h3]; intro _; exact ⟨by dsimp only; omega, rfl⟩
theorem pay_same (tol : Int) (L0 : List EN) (fs0 : List FG) : ∀ (ls : List Ord) (L : List EN) (fr : Int → Option Int) (fs : List FG), INV ⟨fs, tol, L⟩ → (∀ id, frG fs0 fr id = freeG fs id) → sameP L0 L →
    (∀ ln ∈ ls, (1 ≤ ln.copies ∧ ln.copies ≤ 9999) ∧ 0 ≤ ln.price) →
    (payR tol fs L ls).1 = (goI tol fs0 L fr ls).1 ∧ ((goI tol fs0 L fr ls).1 = 0 → (payR tol fs L ls).2.1 = ls.foldl (pay1 L0) fs ∧ (payR tol fs L ls).2.2 = (goI tol fs0 L fr ls).2 ∧ INV ⟨ls.foldl (pay1 L0) fs, tol, (goI tol fs0 L fr ls).2⟩)
  | [], L, fr, fs, h, _, _, _ => ⟨rfl, fun _ => ⟨rfl, rfl, h⟩⟩
  | ln :: ls, L, fr, fs, h, hfr, hsm, hln => by
    obtain ⟨⟨c1, c2⟩, p1⟩ := hln ln (.head _)
    unfold payR goI
    cases hl : lkL L ln.id with
    | none => exact ⟨rfl, fun h => by cases h⟩
    | some z =>
      obtain ⟨x, first⟩ := z
      dsimp only
      by_cases hc : checkP tol ln (some (x, first)) ≠ 0
      · rw [if_pos hc, if_pos hc]; exact ⟨rfl, fun h => absurd h hc⟩
      rw [if_neg hc, if_neg hc]
      have hc0 := check_le (Decidable.of_not_not hc)
      obtain ⟨hm, hid⟩ := lkL_mem hl
      obtain ⟨hN, hB⟩ := h.both _ hm
      have hN' := hN
      obtain ⟨⟨o1, o2⟩, _⟩ := hN
      obtain ⟨b1, b2, b3, b4⟩ := hB
      have b4 := b4 hc0.2
      dsimp only at b1 b2 b3 b4 o1 o2 hid
      obtain ⟨f, hf⟩ := Option.isSome_iff_exists.1 (h.has _ hm)
      dsimp only at hf
      have hfe := h.en _ f hf
      have hge := sumR_ge x.fund hm h.both
      unfold trm at hge
      rw [if_pos rfl] at hge
      have hcp : ln.copies * x.price ≤ resP x := by
        unfold resP
        exact Int.mul_le_mul_of_nonneg_right (by omega) o1
      have hfk : fundOK f := by
        obtain ⟨g, hg, _, rfl⟩ := lkF_mem hf
        exact h.ok.fs g hg
      dsimp only at hge hfe
      obtain ⟨r1, r2, r3, r4⟩ := one_line (f := f) (c := ln.copies) (p := x.price) (q := ln.price) hfk c1 o1 p1 (by omega)
      have e1 : postG relP fs x.fund (ln.copies * x.price) = ((relP f (ln.copies * x.price)).1, setF fs x.fund (relP f (ln.copies * x.price)).2) := by unfold postG; rw [hf]
      have hf2 : lkF (setF fs x.fund (relP f (ln.copies * x.price)).2) x.fund = some (relP f (ln.copies * x.price)).2 := by rw [lkF_set, if_pos rfl, hf]; rfl
      have e2 : postG spdP (setF fs x.fund (relP f (ln.copies * x.price)).2) x.fund (ln.copies * ln.price) = ((spdP (relP f (ln.copies * x.price)).2 (ln.copies * ln.price)).1, setF (setF fs x.fund (relP f (ln.copies * x.price)).2) x.fund (spdP (relP f (ln.copies * x.price)).2 (ln.copies * ln.price)).2) := by unfold postG; rw [hf2]
      have hfree : frG fs0 fr x.fund = f.free := by rw [hfr]; unfold freeG; rw [hf]
      rw [e1]
      dsimp only
      rw [if_neg (fun q => q r1), e2, hfree]
      dsimp only
      by_cases hs : (spdP (relP f (ln.copies * x.price)).2 (ln.copies * ln.price)).1 ≠ 0
      · rw [if_pos hs, if_pos (r2.1 hs)]
        exact ⟨r3 hs, fun h => by cases h⟩
      rw [if_neg hs, if_neg (fun q => hs (r2.2 q))]
      obtain ⟨r5, r6⟩ := r4 (Decidable.of_not_not hs)
      have hfold : pay1 L0 fs ln = setF (setF fs x.fund (relP f (ln.copies * x.price)).2) x.fund (spdP (relP f (ln.copies * x.price)).2 (ln.copies * ln.price)).2 := by
        have h1 := hsm ln.id
        rw [hl] at h1
        unfold pay1
        cases h2 : lkL L0 ln.id with
        | none => rw [h2] at h1; cases h1
        | some y =>
          obtain ⟨y, fi⟩ := y
          rw [h2] at h1
          simp only [Option.map_some, Option.some.injEq, Prod.mk.injEq] at h1
          dsimp only
          rw [h1.1, h1.2, e1]
          dsimp only
          rw [e2]
      rw [List.foldl_cons, hfold]
      generalize hF : setF (setF fs x.fund (relP f (ln.copies * x.price)).2) x.fund (spdP (relP f (ln.copies * x.price)).2 (ln.copies * ln.price)).2 = F
      have hlk : ∀ j, lkF F j = if j = x.fund then some (spdP (relP f (ln.copies * x.price)).2 (ln.copies * ln.price)).2 else lkF fs j := fun j => by
        rw [← hF, lkF_set]
        by_cases hj : j = x.fund
        · rw [if_pos hj, if_pos hj, hf2]; rfl
        · rw [if_neg hj, if_neg hj, lkF_set, if_neg hj]
      have hFok : ∀ g ∈ F, fundOK g.s := by
        have := pay1_ok (L := L0) (ln := ln) h.ok.fs
        rw [show (SG.mk fs tol L).fs = fs from rfl, hfold, hF] at this
        exact this
      have hid' : lkL L { x with paid := x.paid + ln.copies }.id = some (x, first) := by show lkL L x.id = _; rw [hid]; exact hl
      refine pay_same tol L0 fs0 ls _ _ _ ?_ ?_ ?_ (fun l hl => hln l (.tail _ hl))
      · have hq : enN ({ x with paid := x.paid + ln.copies }, first) := ⟨paid_ordN hN' ⟨by omega, hc0.1⟩, (h.ok.L _ hm).2⟩
        refine INV.set (s := ⟨fs, tol, L⟩) h (x := x) hid' rfl (SGok.set (s := ⟨fs, tol, L⟩) h.ok hFok hq) ?_ (fun j g hj => ?_) (fun j => ?_)
        · unfold balO
          dsimp only
          omega
        · rw [hlk] at hj
          by_cases hjx : j = x.fund
          · rw [if_pos hjx] at hj
            injection hj with hj
            subst hj
            refine ⟨f, by rw [hjx]; exact hf, ?_⟩
            rw [r6, if_pos hjx]
            unfold resP
            dsimp only
            rw [show x.prom - (x.paid + ln.copies) = (x.prom - x.paid) - ln.copies by omega, Int.sub_mul]; omega
          · rw [if_neg hjx] at hj
            exact ⟨g, hj, by rw [if_neg hjx, Int.add_zero]⟩
        · show (lkF F j).isSome = (lkF fs j).isSome
          rw [hlk]
          split
          · rename_i h; rw [h, hf]; rfl
          · rfl
      · intro j
        unfold frG frS freeG
        rw [hlk]
        by_cases hj : j = x.fund
        · rw [if_pos hj, if_pos hj]; exact r5.symm
        · rw [if_neg hj, if_neg hj]
          exact hfr j
      · intro j
        rw [hsm j, lkL_set]
        dsimp only
        by_cases hj : j = x.id
        · rw [if_pos hj, hj, hid, hl]; rfl
        · rw [if_neg hj]
theorem invoice_same {s : SG} (h : INV s) {ls : List Ord} {e : Int} (hl : ∀ ln ∈ ls, (1 ≤ ln.copies ∧ ln.copies ≤ 9999) ∧ 0 ≤ ln.price) : invoiceR s ls e = invoiceG s ls e ∧ INV (invoiceG s ls e).2 := by
  unfold invoiceR invoiceG
  by_cases he : e ≠ 0
  · rw [if_pos he, if_pos he]; exact ⟨rfl, h⟩
  rw [if_neg he, if_neg he]
  obtain ⟨h1, h2⟩ := pay_same s.tol s.L s.fs ls s.L (fun _ => none) s.fs h (fun _ => rfl) (fun _ => rfl) hl
  rw [h1]
  by_cases h3 : (goI s.tol s.fs s.L (fun _ => none) ls).1 ≠ 0
  · rw [if_pos h3, if_pos h3]; exact ⟨rfl, h⟩
  rw [if_neg h3, if_neg h3]
  obtain ⟨h4, h5, h6⟩ := h2 (Decidable.of_not_not h3)
  rw [h4, h5]
  exact ⟨rfl, h6⟩
end Go.PK

namespace Go.PK
open Go Go.RowKit
end Go.PK

namespace Go.PK
open Go Go.RowKit
end Go.PK

namespace Go.PK
open Go Go.RowKit
end Go.PK

namespace Go.PK
open Go Go.RowKit
def smE (e : EN) : Prop := (1 ≤ e.1.id ∧ e.1.id ≤ 6) ∧ (1 ≤ e.1.fund ∧ e.1.fund ≤ 4) ∧ e.1.src = 1 ∧ (0 ≤ e.1.num ∧ e.1.num ≤ 2) ∧ (1 ≤ e.1.copies ∧ e.1.copies ≤ 5) ∧ (0 ≤ e.2 ∧ e.2 ≤ 1200) ∧ (0 ≤ e.1.price ∧ e.1.price ≤ 1201200)
def keyF (x : FG) : Int × Int × Int := (x.id, x.par, x.s.al)
def keys3 (m : Int) : List (Int × Int × Int) := [(1, 0, 20000), (2, 1, 9000), (3, 1, m)]
structure DOK (m : Int) (s : SG) : Prop where
  inv : INV s
  sm : ∀ e ∈ s.L, smE e
  fs : s.fs.map keyF = keys3 m
theorem setF_key : ∀ {fs : List FG} {id : Int} {g : FSt}, (∀ f, lkF fs id = some f → g.al = f.al) → (setF fs id g).map keyF = fs.map keyF
  | [], _, _, _ => rfl
  | x :: l, id, g, h => by
    unfold setF
    by_cases hx : x.id = id
    · rw [if_pos hx]
      have := h x.s (by rw [lkF_cons, if_pos hx])
      rw [List.map_cons, List.map_cons]
      unfold keyF
      dsimp only
      rw [this]
    · rw [if_neg hx, List.map_cons, List.map_cons, setF_key fun f hf => h f (by rw [lkF_cons, if_neg hx]; exact hf)]
theorem post_key {R : FSt → Int → Int × FSt} (hR : ∀ f n, (R f n).2.al = f.al) (fs : List FG) (id n : Int) : (postG R fs id n).2.map keyF = fs.map keyF := by
  unfold postG
  cases hl : lkF fs id with
  | none => rfl
  | some f => exact setF_key fun g hg => by rw [hl] at hg; cases hg; exact hR f n
theorem enc_al (f : FSt) (n : Int) : (encP f n).2.al = f.al := by unfold encP; split <;> (try split) <;> rfl
theorem rel_al (f : FSt) (n : Int) : (relP f n).2.al = f.al := by unfold relP; split <;> (try split) <;> rfl
theorem spd_al (f : FSt) (n : Int) : (spdP f n).2.al = f.al := by unfold spdP; split <;> (try split) <;> rfl
theorem move_key (fs : List FG) (id b n : Int) : (moveG fs id b n).2.map keyF = fs.map keyF := by
  unfold moveG
  split
  · exact post_key enc_al _ _ _
  · exact post_key rel_al _ _ _
theorem pay1_key (L : List EN) (fs : List FG) (ln : Ord) : (pay1 L fs ln).map keyF = fs.map keyF := by
  unfold pay1
  split
  · rfl
  · rw [post_key spd_al, post_key rel_al]
theorem pays_key (L : List EN) : ∀ (ls : List Ord) (fs : List FG), (ls.foldl (pay1 L) fs).map keyF = fs.map keyF
  | [], _ => rfl
  | ln :: ls, fs => by rw [List.foldl_cons, pays_key L ls, pay1_key]
theorem DOK.len {m : Int} {s : SG} (h : DOK m s) : s.L.length ≤ 6 := by
  have key : ∀ (k : Nat) (L : List EN) (a : Int), srtL L → (∀ e ∈ L, a < e.1.id ∧ e.1.id ≤ 6) → a + k = 6 → L.length ≤ k := by
    intro k
    induction k with
    | zero =>
      intro L a _ hb ha
      cases L with
      | nil => exact Nat.le_refl _
      | cons e l => have := hb e (.head _); omega
    | succ k ih =>
      intro L a hs hb ha
      cases L with
      | nil => exact Nat.zero_le _
      | cons e l =>
        obtain ⟨h1, h2⟩ := List.pairwise_cons.1 hs
        have h3 := hb e (.head _)
        have h4 := ih l (a + 1) h2 (fun x hx => ⟨by have := h1 x hx; omega, (hb x (.tail _ hx)).2⟩) (by omega)
        rw [List.length_cons]; omega
  exact key 6 s.L 0 h.inv.ok.srt (fun e he => ⟨by have := (h.sm e he).1; omega, (h.sm e he).1.2⟩) (by omega)
theorem sm_set {L : List EN} {y : EN} (h : ∀ e ∈ L, smE e) (hy : smE y) : ∀ e ∈ setL L y, smE e := fun e he => by
  rcases setL_mem he with he | rfl
  · exact h e he
  · exact hy
theorem sm_ins {L : List EN} {y : EN} (h : ∀ e ∈ L, smE e) (hy : smE y) : ∀ e ∈ insL L y, smE e := fun e he => by
  rcases insL_mem.1 he with he | rfl
  · exact h e he
  · exact hy
def wantK (x : Ord) : Prop := (1 ≤ x.id ∧ x.id ≤ 6) ∧ (1 ≤ x.fund ∧ x.fund ≤ 4) ∧ x.src = 1 ∧ (0 ≤ x.num ∧ x.num ≤ 2) ∧ (0 ≤ x.copies ∧ x.copies ≤ 5) ∧ (0 ≤ x.price ∧ x.price ≤ 1200)
theorem DOK.place {m : Int} {s : SG} (h : DOK m s) {x : Ord} (hx : wantK x) : DOK m (placeG s x).2 := by
  refine ⟨h.inv.place x, ?_, ?_⟩ <;> unfold placeG
  · by_cases h1 : writB x = false
    · rw [if_pos h1]; exact h.sm
    rw [if_neg h1]
    by_cases h2 : (lkL s.L x.id).isSome = true
    · rw [if_pos h2]; exact h.sm
    rw [if_neg h2]
    split
    · exact h.sm
    · have hw := (writB_iff x).1 (by simpa using h1)
      refine sm_ins h.sm ?_
      unfold wrO at hw
      unfold wantK at hx
      unfold smE placedO
      dsimp only
      omega
  · by_cases h1 : writB x = false
    · rw [if_pos h1]; exact h.fs
    rw [if_neg h1]
    by_cases h2 : (lkL s.L x.id).isSome = true
    · rw [if_pos h2]; exact h.fs
    rw [if_neg h2]
    split
    · exact h.fs
    · show (postG encP s.fs x.fund (x.copies * x.price)).2.map keyF = _
      rw [post_key enc_al]; exact h.fs
theorem near_le {tol p q : Int} (h : nearP tol p q) (ht : 0 ≤ tol ∧ tol ≤ 1000000) (hq : 0 ≤ q ∧ q ≤ 1200) : p ≤ 1201200 := by
  unfold nearP at h
  have : tol * q ≤ 1000000 * 1200 := Int.mul_le_mul ht.2 hq.2 hq.1 (by decide)
  omega
theorem DOK.answer {m : Int} {s : SG} (h : DOK m s) {a : Ord} {e : Int} (k1 : 0 ≤ a.price ∧ a.price ≤ 999999999) (k2 : 0 ≤ a.copies ∧ a.copies ≤ 9999) : DOK m (answerG s a e).2 := by
  refine ⟨h.inv.answer k1 k2, ?_, ?_⟩ <;> unfold answerG
  · by_cases he : e ≠ 0
    · rw [if_pos he]; exact h.sm
    rw [if_neg he]
    cases hl : lkL s.L a.id with
    | none => exact h.sm
    | some z =>
      obtain ⟨x, first⟩ := z
      dsimp only
      split
      · exact h.sm
      · split
        · exact h.sm
        · split
          · exact h.sm
          · rename_i hn
            split
            · exact h.sm
            · have hx := h.sm _ (lkL_mem hl).1
              refine sm_set h.sm ?_
              unfold smE at hx ⊢
              unfold answO
              dsimp only at hx ⊢
              have := near_le (Decidable.of_not_not hn) h.inv.ok.tol ⟨by omega, by omega⟩
              omega
  · by_cases he : e ≠ 0
    · rw [if_pos he]; exact h.fs
    rw [if_neg he]
    cases hl : lkL s.L a.id with
    | none => exact h.fs
    | some z =>
      obtain ⟨x, first⟩ := z
      dsimp only
      split
      · exact h.fs
      · split
        · exact h.fs
        · split
          · exact h.fs
          · split
            · exact h.fs
            · show (moveG s.fs x.fund (resP x) (resP (answO x a))).2.map keyF = _
              rw [move_key]; exact h.fs
theorem goI_sm (tol : Int) (fs : List FG) : ∀ (ls : List Ord) (L : List EN) (fr : Int → Option Int), (∀ e ∈ L, smE e) → ∀ e ∈ (goI tol fs L fr ls).2, smE e
  | [], L, fr, h => h
  | ln :: ls, L, fr, h => by
    unfold goI
    split
    · exact h
    · rename_i x first hx
      split
      · exact h
      · split
        · exact h
        · exact goI_sm tol fs ls _ _ (sm_set h (show smE (_, first) from h (x, first) (lkL_mem hx).1))
theorem DOK.invoice {m : Int} {s : SG} (h : DOK m s) {ls : List Ord} {e : Int} (hl : ∀ ln ∈ ls, (1 ≤ ln.copies ∧ ln.copies ≤ 9999) ∧ 0 ≤ ln.price) : DOK m (invoiceG s ls e).2 := by
  refine ⟨(invoice_same h.inv hl).2, ?_, ?_⟩ <;> unfold invoiceG
  · split
    · exact h.sm
    · split
      · exact h.sm
      · exact goI_sm _ _ _ _ _ h.sm
  · split
    · exact h.fs
    · split
      · exact h.fs
      · show (ls.foldl (pay1 s.L) s.fs).map keyF = _
        rw [pays_key]; exact h.fs
theorem fs3 {m : Int} {fs : List FG} (h : fs.map keyF = keys3 m) : ∃ a b c : FSt, fs = [⟨1, 0, a⟩, ⟨2, 1, b⟩, ⟨3, 1, c⟩] ∧ a.al = 20000 ∧ b.al = 9000 ∧ c.al = m := by
  have hl := congrArg List.length h
  rw [List.length_map] at hl
  match fs, hl, h with
  | [⟨i1, p1, a⟩, ⟨i2, p2, b⟩, ⟨i3, p3, c⟩], _, h =>
    simp only [keys3, keyF, List.map_cons, List.map_nil, List.cons.injEq, Prod.mk.injEq, and_true] at h
    obtain ⟨⟨rfl, rfl, h1⟩, ⟨rfl, rfl, h2⟩, ⟨rfl, rfl, h3⟩⟩ := h
    exact ⟨a, b, c, rfl, h1, h2, h3⟩
theorem DOK.new {m tol : Int} (hm : 0 ≤ m ∧ m < 5000) (ht : 0 ≤ tol ∧ tol ≤ 1000000) : DOK m ⟨[⟨1, 0, ⟨20000, 0, 0⟩⟩, ⟨2, 1, ⟨9000, 0, 0⟩⟩, ⟨3, 1, ⟨m, 0, 0⟩⟩], tol, []⟩ := by
  refine ⟨⟨⟨fun f hf => ?_, ht, fun e he => (by cases he), List.Pairwise.nil⟩, fun e he => (by cases he), fun id f hf => ?_, fun e he => (by cases he)⟩, fun e he => (by cases he), rfl⟩
  · unfold fundOK
    rcases List.mem_cons.1 hf with rfl | hf
    · decide
    · rcases List.mem_cons.1 hf with rfl | hf
      · decide
      · rw [List.mem_singleton.1 hf]; dsimp only; omega
  · show f.en = 0
    obtain ⟨x, hx, _, rfl⟩ := lkF_mem hf
    rcases List.mem_cons.1 hx with rfl | hx
    · rfl
    · rcases List.mem_cons.1 hx with rfl | hx
      · rfl
      · rw [List.mem_singleton.1 hx]
end Go.PK

namespace Go.PK
open Go Go.RowKit
section
variable {α : Type} {f : α → List Value} {v : Nat}
end
def rowIn (w : World) (e : TypeId) (R : RowS) : Prop := ∀ p ∈ rowO e R, w.heap[p.1]? = some p.2
theorem Mem.rowIn {w : World} {own : List (Nat × Obj)} {ro : List Snap} (hm : Mem w own ro) {e : TypeId} {R : RowS} (h : ∀ p ∈ rowO e R, p ∈ own) : rowIn w e R := fun p hp => hm.own_at p (h p hp)
theorem rowIn.cell {w : World} {e : TypeId} {b c : Nat} {cs : List Value} (h : rowIn w e (some (b, cs, c))) {i : Nat} {u : Value} (hu : cs[i]? = some u) : w.cell? ⟨b, i, none⟩ = some u := by
  rw [cell_of_row w b i cs.toArray e (0, 0) (h (b, _) (.head _)), List.getElem?_toArray]; exact hu
end Go.PK

namespace Go.PK
open Go Go.RowKit
end Go.PK

namespace Go.PK
open Go Go.RowKit Go.Maps
theorem Mem.front {w : World} {a b c : List (Nat × Obj)} {ro : List Snap} (h : Mem w (a ++ (b ++ c)) ro) : Mem w (b ++ (a ++ c)) ro := h.perm (List.perm_append_comm_assoc _ _ _)
def srtF (fs : List FG) : Prop := (fs.map (·.id)).Pairwise (· < ·)
end Go.PK

namespace Go.PK
open Go Go.RowKit
def txTo (ns : List Int) : Nat → ByteArray
  | 0 => ⟨#[]⟩
  | k + 1 => (if 0 < k then txTo ns k ++ slash else txTo ns k) ++ itoaS (ns.getD k 0)
def txN (ns : List Int) : ByteArray := txTo ns ns.length
def isT (p : Pat) (sk : Bool) (k : Int) : ByteArray := if sk then ⟨#[120]⟩ ++ txN (numsP p k) else txN (numsP p k)
end Go.PK

namespace Go.PK
open Go Go.RowKit
def tkE (p : Pat) (text : ByteArray) (day : Int) : Option Ent × Int :=
  if (!(numsOf (tkA text)).2 || !(numsOf (tkB text)).2) = true then (none, 11) else
  if okDay day then
    match numP p (numsOf (tkA text)).1, numP p (numsOf (tkB text)).1 with
    | some i, some j => if j < i ∨ 100 ≤ j - i then (none, 32) else (some ⟨i, j, tkS text, day⟩, 0)
    | _, _ => (none, 32)
  else (none, 1)
def meets (es : List Ent) (x : Ent) : Bool := es.any fun e => decide (x.fr ≤ e.to) && decide (e.fr ≤ x.to)
theorem tkE_ok {p : Pat} {text : ByteArray} {day : Int} {x : Ent} (h : (tkE p text day).1 = some x) : entOK x ∧ (tkE p text day).2 = 0 := by
  unfold tkE at h ⊢
  split at h
  · cases h
  · rename_i h1
    rw [if_neg h1]
    split at h
    · rename_i h2
      rw [if_pos h2]
      cases h3 : numP p (numsOf (tkA text)).1 with
      | none => rw [h3] at h; cases h
      | some i =>
        cases h4 : numP p (numsOf (tkB text)).1 with
        | none => rw [h3, h4] at h; cases h
        | some j =>
          rw [h3, h4] at h
          dsimp only at h ⊢
          split at h
          · cases h
          · rename_i h5
            rw [if_neg h5]
            injection h with h
            have r1 := numP_rng p (numsOf (tkA text)).1
            have r2 := numP_rng p (numsOf (tkB text)).1
            rw [h3] at r1; rw [h4] at r2
            simp only [Option.getD_some] at r1 r2
            rw [← h]
            exact ⟨⟨r1.1, by dsimp only; omega, r2.2, by dsimp only; omega, h2⟩, rfl⟩
    · cases h
def srt (es : List Ent) : Prop := es.Pairwise (fun x y => x.to < y.fr) ∧ ∀ x ∈ es, entOK x
theorem srt_nil : srt [] := ⟨List.Pairwise.nil, fun x hx => by cases hx⟩
theorem entOK.le {x : Ent} (h : entOK x) : x.fr ≤ x.to := h.2.1
theorem meets_no {es : List Ent} {x : Ent} (h : meets es x = false) : ∀ e ∈ es, x.to < e.fr ∨ e.to < x.fr := fun e he => by
  unfold meets at h
  rw [List.any_eq_false] at h
  have := h e he
  simp only [Bool.and_eq_true, decide_eq_true_eq] at this
  omega
theorem ins_parts {es : List Ent} {x : Ent} (hs : srt es) (hx : entOK x) (hm : meets es x = false) : ∃ A B, es = A ++ B ∧ insE es x = A ++ x :: B ∧ (∀ e ∈ A, e.to < x.fr) ∧ ∀ e ∈ B, x.to < e.fr := by
  refine ⟨es.take (insI es x.to), es.drop (insI es x.to), (List.take_append_drop _ _).symm, rfl, fun e he => ?_, fun e he => ?_⟩
  · have h1 := meets_no hm e (List.mem_of_mem_take he)
    rcases h1 with h1 | h1
    · obtain ⟨j, hj, rfl⟩ := List.getElem_of_mem he
      rw [List.length_take] at hj
      rw [List.getElem_take] at h1
      have := List.not_of_lt_findIdx (xs := es) (p := fun e : Ent => decide (x.to < e.fr)) (i := j) (show j < List.findIdx _ es by unfold insI at hj; omega)
      rw [decide_eq_true h1] at this; cases this
    · exact h1
  · have hi := insI_le es x.to
    obtain ⟨j, hj, rfl⟩ := List.getElem_of_mem he
    rw [List.length_drop] at hj
    rw [List.getElem_drop]
    have hlt : insI es x.to < es.length := by omega
    have h0 : x.to < es[insI es x.to].fr := by
      have := List.findIdx_getElem (xs := es) (p := fun e : Ent => decide (x.to < e.fr)) (w := hlt)
      exact of_decide_eq_true this
    by_cases hj0 : j = 0
    · subst hj0; exact h0
    · have h1 := List.pairwise_iff_getElem.1 hs.1 (insI es x.to) (insI es x.to + j) hlt (by omega) (by omega)
      have h2 := (hs.2 _ (List.getElem_mem hlt)).le
      omega
theorem ins_srt {es : List Ent} {x : Ent} (hs : srt es) (hx : entOK x) (hm : meets es x = false) : srt (insE es x) ∧ (insE es x).Perm (x :: es) := by
  obtain ⟨A, B, h1, h2, h3, h4⟩ := ins_parts hs hx hm
  rw [h2]
  have hp : (A ++ x :: B).Perm (x :: es) := by rw [h1]; exact List.perm_middle
  refine ⟨⟨?_, fun e he => ?_⟩, hp⟩
  · have hs1 := hs.1
    rw [h1, List.pairwise_append] at hs1
    rw [List.pairwise_append]
    refine ⟨hs1.1, List.pairwise_cons.2 ⟨h4, hs1.2.1⟩, fun a ha b hb => ?_⟩
    rcases List.mem_cons.1 hb with rfl | hb
    · exact h3 a ha
    · exact hs1.2.2 a ha b hb
  · rcases List.mem_cons.1 (hp.subset he) with rfl | he
    · exact hx
    · exact hs.2 e he
theorem srt_eq : ∀ {a b : List Ent}, srt a → srt b → a.Perm b → a = b
  | [], b, _, _, h => (List.nil_perm.1 h).symm
  | x :: a, [], _, _, h => by simpa using h.length_eq
  | x :: a, y :: b, ha, hb, h => by
    have hxy : x = y := by
      rcases List.mem_cons.1 (h.subset (List.mem_cons_self ..)) with h1 | h1
      · exact h1
      · rcases List.mem_cons.1 (h.symm.subset (List.mem_cons_self ..)) with h2 | h2
        · exact h2.symm
        · have h3 := (List.pairwise_cons.1 hb.1).1 x h1
          have h4 := (List.pairwise_cons.1 ha.1).1 y h2
          have h5 := (ha.2 x (List.mem_cons_self ..)).le
          have h6 := (hb.2 y (List.mem_cons_self ..)).le
          omega
    subst hxy
    rw [srt_eq ⟨(List.pairwise_cons.1 ha.1).2, fun e he => ha.2 e (List.mem_cons_of_mem _ he)⟩ ⟨(List.pairwise_cons.1 hb.1).2, fun e he => hb.2 e (List.mem_cons_of_mem _ he)⟩ h.cons_inv]
structure ActD where
  fr : Int
  to : Int
  day : Int
  sk : Bool
  two : Bool
  raw : ByteArray
def callT (p : Pat) (a : ActD) : ByteArray := if a.raw ≠ ⟨#[]⟩ then a.raw else
  if a.two then isT p a.sk (a.fr % 200) ++ ⟨#[45]⟩ ++ txN (numsP p (a.to % 320)) else isT p a.sk (a.fr % 200)
def callD (p : Pat) (a : ActD) : Int := IntKind.i64.wrap (p.first + a.day)
def entA (p : Pat) (a : ActD) : Option Ent := (tkE p (callT p a) (callD p a)).1
structure Of (p : Pat) (es : List Ent) (gs : List ActD) : Prop where
  srt : srt es
  all : ∀ a ∈ gs, (entA p a).isSome = true
  perm : es.Perm (gs.filterMap (entA p))
theorem Of.nil (p : Pat) : Of p [] [] := ⟨srt_nil, (fun a ha => by cases ha), List.Perm.refl _⟩
theorem Of.snoc {p : Pat} {es : List Ent} {gs : List ActD} (h : Of p es gs) {a : ActD} {x : Ent} (hx : entA p a = some x) (hm : meets es x = false) : Of p (insE es x) (gs ++ [a]) := by
  obtain ⟨h1, h2⟩ := ins_srt h.srt (tkE_ok hx).1 hm
  refine ⟨h1, fun b hb => ?_, ?_⟩
  · rcases List.mem_append.1 hb with hb | hb
    · exact h.all b hb
    · rw [List.mem_singleton.1 hb, hx]; rfl
  · rw [List.filterMap_append]
    have : List.filterMap (entA p) [a] = [x] := by rw [List.filterMap_cons, hx]; rfl
    rw [this]
    exact h2.trans ((h.perm.cons x).trans (List.perm_append_comm (l₁ := [x])))
theorem apart_of_srt {es : List Ent} (h : srt es) : es.Pairwise fun x y => x.to < y.fr ∨ y.to < x.fr := h.1.imp fun h => .inl h
theorem Of.next {p : Pat} {es es2 : List Ent} {gs g2 : List ActD} (h : Of p es gs) (hp : g2.Perm gs) {k : Nat} (hk : k < g2.length) (h2 : Of p es2 (g2.take k)) : ∃ x, entA p g2[k] = some x ∧ meets es2 x = false ∧ entOK x := by
  have hs : (entA p g2[k]).isSome = true := h.all _ (hp.subset (List.getElem_mem hk))
  obtain ⟨x, hx⟩ := Option.isSome_iff_exists.1 hs
  refine ⟨x, hx, ?_, (tkE_ok hx).1⟩
  have hap : (g2.filterMap (entA p)).Pairwise fun x y => x.to < y.fr ∨ y.to < x.fr :=
    ((apart_of_srt h.srt).perm h.perm (fun h => h.symm)).perm ((hp.symm).filterMap _) (fun h => h.symm)
  have e : g2 = g2.take k ++ g2[k] :: g2.drop (k + 1) := by rw [List.getElem_cons_drop, List.take_append_drop]
  rw [e, List.filterMap_append, List.filterMap_cons, hx, List.pairwise_append] at hap
  cases hm : meets es2 x with
  | false => rfl
  | true =>
    unfold meets at hm
    rw [List.any_eq_true] at hm
    obtain ⟨y, hy, hc⟩ := hm
    rw [Bool.and_eq_true, decide_eq_true_eq, decide_eq_true_eq] at hc
    have := hap.2.2 y (h2.perm.subset hy) x (List.mem_cons_self ..)
    omega
theorem Of.same {p : Pat} {es es2 : List Ent} {gs g2 : List ActD} (h : Of p es gs) (hp : g2.Perm gs) (h2 : Of p es2 g2) : es2 = es :=
  srt_eq h2.srt h.srt (h2.perm.trans ((hp.filterMap _).trans h.perm.symm))
end Go.PK

namespace Go.PK
open Go Go.RowKit
end Go.PK

namespace Go.PK
open Go Go.RowKit
section
variable {P : Program} {n : Nat} {l : List (Nat × Value)} {own : List (Nat × Obj)} {ro : List Snap} {ty t t' : TypeId} {x y : Operand} {k k' : IntKind} {a b c : Int}
end
end Go.PK

namespace Go.PK
open Go Go.RowKit
end Go.PK

namespace Go.PK
open Go Go.RowKit
def ixF (fs : List FG) (id : Int) : Int := fidx (fun x : FG => decide (x.id = id)) fs
theorem rowIn.later {w w' : World} {e : TypeId} {R : RowS} (h : rowIn w e R) (hl : Later w w') : rowIn w' e R := fun p hp => (hl.block p.1 (heap_lt (h p hp))).trans (h p hp)
structure opF (fs : List FG) : Prop where
  len : fs.length ≤ 10
  fg : ∀ f ∈ fs, fgN f
  bd : ∀ f ∈ fs, 0 ≤ f.s.al ∧ f.s.al ≤ 1000000
  srt : srtF fs
  ends : ∀ k (hk : k < fs.length), fs[k].par = 0 ∨ ∃ j, ∃ hj : j < fs.length, ixF fs fs[k].par = (j : Nat) ∧ fs[j].par = 0
theorem opF.new {m : Int} {fs : List FG} (h : fs.map keyF = keys3 m) (hm : 0 ≤ m ∧ m < 5000) (hok : ∀ f ∈ fs, fundOK f.s) : opF fs := by
  obtain ⟨a, b, c, rfl, h1, h2, h3⟩ := fs3 h
  have ha := hok ⟨1, 0, a⟩ (.head _)
  have hb := hok ⟨2, 1, b⟩ (.tail _ (.head _))
  have hc := hok ⟨3, 1, c⟩ (.tail _ (.tail _ (.head _)))
  refine ⟨by show 3 ≤ 10; decide, ?_, ?_, ?_, ?_⟩
  · intro f hf
    simp only [List.mem_cons, List.not_mem_nil, or_false] at hf
    rcases hf with rfl | rfl | rfl
    · exact ⟨(by decide : (1 : Int) ≤ 1 ∧ (1 : Int) ≤ 9223372036854775807), (by decide : (0 : Int) ≤ 0 ∧ (0 : Int) ≤ 9223372036854775807), ha⟩
    · exact ⟨(by decide : (1 : Int) ≤ 2 ∧ (2 : Int) ≤ 9223372036854775807), (by decide : (0 : Int) ≤ 1 ∧ (1 : Int) ≤ 9223372036854775807), hb⟩
    · exact ⟨(by decide : (1 : Int) ≤ 3 ∧ (3 : Int) ≤ 9223372036854775807), (by decide : (0 : Int) ≤ 1 ∧ (1 : Int) ≤ 9223372036854775807), hc⟩
  · intro f hf
    simp only [List.mem_cons, List.not_mem_nil, or_false] at hf
    rcases hf with rfl | rfl | rfl <;> dsimp only <;> omega
  · unfold srtF; simp
  · intro k hk
    have hk : k < 3 := hk
    match k, hk with
    | 0, _ => exact .inl rfl
    | 1, _ => exact .inr ⟨0, Nat.succ_pos _, rfl, rfl⟩
    | 2, _ => exact .inr ⟨0, Nat.succ_pos _, rfl, rfl⟩
end Go.PK

namespace Go.PK
open Go Go.RowKit Go.Maps
section
variable {P : Program} {n : Nat} {l : List (Nat × Value)} {own : List (Nat × Obj)} {ro : List Snap} {ty : TypeId} {x y z : Operand} {k k' k'' : IntKind} {a b c : Int}
theorem v_min3 {tys : Array TypeId} (hx : ev l x = some (.int k a)) (hy : ev l y = some (.int k' b)) (hz : ev l z = some (.int k'' c)) : OpV P n l own ro (.call ⟨.builtin .min, #[x, y, z], tys⟩) ty (.int k (min (min a b) c)) := by
  intro A w o ha _ ho _
  have e : (if b < a then b else a) = min a b := by omega
  have e2 : (if c < min a b then c else min a b) = min (min a b) c := by omega
  simp [execOp, ho, resolve, invoke, builtin, ha.eval hx, ha.eval hy, ha.eval hz, Builtin.min_, Builtin.min2, e, e2]
end
theorem MapC.uniq {P : Program} {kt : TypeId} {es : Array MapEntry} {ck : Nat} {f : Value → Option Value} (h : MapC P kt es ck f) {x y : MapEntry} (hx : x ∈ es.toList) (hy : y ∈ es.toList) (he : x.key = y.key) : x = y := by
  obtain ⟨i, hi, rfl⟩ := List.getElem_of_mem hx
  obtain ⟨j, hj, rfl⟩ := List.getElem_of_mem hy
  have := h.f.one i j _ _ (by rw [← Array.getElem?_toList]; exact List.getElem?_eq_getElem hi) (by rw [← Array.getElem?_toList]; exact List.getElem?_eq_getElem hj) he
  subst this; rfl
abbrev m3 (a b c : FSt) (p1 p2 p3 : Nat) (B : Value) : List FM := [⟨⟨1, 0, a⟩, p1, B⟩, ⟨⟨2, 1, b⟩, p2, .slice none 0 0⟩, ⟨⟨3, 1, c⟩, p3, .slice none 0 0⟩]
def cnt3 (dn : List MapEntry) (n : Int) : Prop := (n = 3 ∧ ∃ e ∈ dn, e.key = .int .i64 1) ∨ (n = 0 ∧ ∀ e ∈ dn, e.key ≠ .int .i64 1)
theorem cnt3.nil : cnt3 [] 0 := .inr ⟨rfl, fun e h => (by cases h)⟩
theorem cnt3.skip {dn : List MapEntry} {n : Int} (h : cnt3 dn n) {e : MapEntry} (he : e.key ≠ .int .i64 1) : cnt3 (dn ++ [e]) n := by
  rcases h with ⟨h1, x, hx, hk⟩ | ⟨h1, h2⟩
  · exact .inl ⟨h1, x, List.mem_append_left _ hx, hk⟩
  · refine .inr ⟨h1, fun x hx => ?_⟩
    rcases List.mem_append.1 hx with hx | hx
    · exact h2 x hx
    · rw [List.mem_singleton.1 hx]; exact he
theorem cnt3.take {P : Program} {kt : TypeId} {es : Array MapEntry} {ck : Nat} {f : Value → Option Value} (hC : MapC P kt es ck f) {seen : Array Nat} {dn : List MapEntry} {n : Int} (hi : Iter es seen dn) (h : cnt3 dn n) {e : MapEntry} (he : e.key = .int .i64 1) (hm : e ∈ es.toList) (hn : e ∉ dn) : n = 0 ∧ cnt3 (dn ++ [e]) 3 := by
  refine ⟨?_, .inl ⟨rfl, e, List.mem_append_right _ (.head _), he⟩⟩
  rcases h with ⟨_, x, hx, hk⟩ | ⟨h1, _⟩
  · exact absurd (hC.uniq (hi.sub x hx) hm (hk.trans he.symm) ▸ hx) hn
  · exact h1
theorem cnt3.done {P : Program} {kt : TypeId} {es : Array MapEntry} {ck : Nat} {f : Value → Option Value} (hC : MapC P kt es ck f) {ids : List Int} (hk : keysIs f ids) (h1 : 1 ∈ ids) {seen : Array Nat} {dn : List MapEntry} {n : Int} (hi : Iter es seen dn) (h : cnt3 dn n) (h0 : (leftOf es seen).size = 0) : n = 3 := by
  rcases h with ⟨h, _⟩ | ⟨_, h2⟩
  · exact h
  · obtain ⟨e, he, hke⟩ := (hC.mem (.int .i64 1)).2 ((hk.2 _).2 ⟨1, h1, rfl⟩)
    exact absurd hke (h2 e ((hi.done hC h0).mem_iff.2 he))
end Go.PK

namespace Go.PK
open Go Go.RowKit
section
variable {P : Program} {n : Nat} {l : List (Nat × Value)} {own : List (Nat × Obj)} {ro : List Snap} {ty t t' : TypeId} {x y : Operand} {xs ys : Array Value} {b : Bool}
theorem v_eqA (hm : P.eqGuardType P.depth t = false) (hx : ev l x = some (.agg xs)) (hy : ev l y = some (.agg ys)) (he : ∀ w, (Op.equalIn 10000 t (.agg xs) (.agg ys)).run P w = .ok b w) : OpV P n l own ro (.binOp .eql t x y t') ty (.bool b) := by
  intro A w o ha _ ho _
  simp [execOp, ho, ha.eval hx, ha.eval hy, run_eqGuard_agg w .eql t x y xs ys hm, run_eql_struct, he]
end
end Go.PK

namespace Go.PK
open Go Go.RowKit Go.Maps
def gM (g : ByteArray → Int) : Value → Option Value := fun v => match v with | .string t => if g t = 0 then none else some (.int .i64 (g t)) | _ => none
def lst (g : ByteArray → Int) (ts : List ByteArray) (id : Int) : ByteArray → Int := fun s => if amg ts s = true ∧ (g s = 0 ∨ id < g s) then id else g s
variable {g : ByteArray → Int} {ts : List ByteArray} {t : ByteArray} {id : Int}
theorem gM_zero : gM (fun _ => 0) = fun _ => none := by
  funext v
  unfold gM
  split
  · rw [if_pos rfl]
  · rfl
theorem gM_at (g : ByteArray → Int) (t : ByteArray) : gM g (.string t) = if g t = 0 then none else some (.int .i64 (g t)) := rfl
theorem lst_nil : lst g [] id = g := by
  funext s
  unfold lst
  rw [if_neg (fun h => by cases h.1)]
theorem amg_snoc {s : ByteArray} : amg (ts ++ [t]) s = (amg ts s || decide (t = s)) := by
  unfold amg
  rw [List.any_append]; simp
theorem amg_one {s : ByteArray} : amg [t] s = decide (t = s) := by unfold amg; simp
theorem lst_snoc (h : 1 ≤ id) : lst (lst g ts id) [t] id = lst g (ts ++ [t]) id := by
  funext s
  unfold lst
  rw [amg_snoc, amg_one]
  by_cases h1 : amg ts s = true ∧ (g s = 0 ∨ id < g s)
  · rw [if_pos h1, if_neg (fun h2 => by rcases h2.2 with h3 | h3 <;> omega), if_pos ⟨by rw [h1.1]; rfl, h1.2⟩]
  · rw [if_neg h1]
    by_cases h2 : decide (t = s) = true ∧ (g s = 0 ∨ id < g s)
    · rw [if_pos h2, if_pos ⟨by rw [h2.1, Bool.or_true], h2.2⟩]
    · rw [if_neg h2, if_neg (fun h3 => ?_)]
      rcases Bool.or_eq_true_iff.1 h3.1 with h4 | h4
      · exact h1 ⟨h4, h3.2⟩
      · exact h2 ⟨h4, h3.2⟩
theorem lst_keep (h : ¬(g t = 0 ∨ id < g t)) : lst g [t] id = g := by
  funext s
  unfold lst
  rw [if_neg (fun h2 => ?_)]
  rw [amg_one] at h2
  have := of_decide_eq_true h2.1
  subst this
  exact h h2.2
theorem lst_put (h : g t = 0 ∨ id < g t) (h1 : 1 ≤ id) : gM (lst g [t] id) = fupd (gM g) (.string t) (.int .i64 id) := by
  funext v
  by_cases hv : v = .string t
  · subst hv
    rw [fupd_self, gM_at]
    unfold lst
    have hc : amg [t] t = true ∧ (g t = 0 ∨ id < g t) := ⟨by rw [amg_one]; exact decide_eq_true rfl, h⟩
    rw [if_pos hc, if_neg (by omega)]
  · rw [fupd_ne hv]
    unfold gM
    split
    · rename_i s
      have hs : ¬t = s := fun e => hv (by rw [e])
      unfold lst
      have hn : ¬(amg [t] s = true ∧ (g s = 0 ∨ id < g s)) := fun h2 => hs (of_decide_eq_true (by rw [← amg_one]; exact h2.1))
      rw [if_neg hn]
    · rfl
theorem namedL (hs : List HG) (h : HG) : (fun t => leastB (namedB t) (hs ++ [h])) = lst (fun t => leastB (namedB t) hs) [foldS h.name] h.id := by
  funext t
  rw [leastB_snoc]
  unfold lst
  rw [amg_one]; rfl
theorem alsoL (hs : List HG) (h : HG) : (fun t => leastB (alsoB t) (hs ++ [h])) = lst (fun t => leastB (alsoB t) hs) (h.oth.map foldS) h.id := by
  funext t
  rw [leastB_snoc]; rfl
def entH (gs : List HG) (e : MapEntry) : HG := (lkH gs (kInt e.key)).getD ⟨0, ⟨#[]⟩, [], [], 0⟩
theorem lkM8_some {hs : List HM} {id : Int} : (lkM8 hs id).isSome = true ↔ ∃ i ∈ (gs8 hs).map (·.id), i = id := by
  have h1 := lkM8_g hs id
  constructor
  · intro h
    obtain ⟨y, hy⟩ := Option.isSome_iff_exists.1 h
    rw [hy] at h1
    obtain ⟨h2, h3⟩ := lkH_mem h1
    exact ⟨_, List.mem_map_of_mem h2, h3⟩
  · rintro ⟨i, hi, rfl⟩
    obtain ⟨q, hq, he⟩ := List.mem_map.1 hi
    cases hl : lkM8 hs i with
    | some y => rfl
    | none =>
      rw [hl] at h1
      exact absurd he (lkH_none.1 h1 q hq)
theorem hm_keys {hs : List HM} (hn : ((gs8 hs).map (·.id)).Nodup) : keysIs (hmM hs) ((gs8 hs).map (·.id)) := by
  refine ⟨hn, fun v => ?_⟩
  unfold hmM
  split
  · rename_i id
    rw [Option.isSome_map, lkM8_some]
    constructor
    · rintro ⟨i, hi, rfl⟩; exact ⟨i, hi, rfl⟩
    · rintro ⟨i, hi, he⟩; injection he with _ he; exact ⟨i, hi, he.symm⟩
  · rename_i hv
    constructor
    · intro h; cases h
    · rintro ⟨i, hi, rfl⟩; exact absurd rfl (hv i)
theorem entH_all {P : Program} {kt : TypeId} {es : Array MapEntry} {ck : Nat} {hs : List HM} (h : MapC P kt es ck (hmM hs)) (hn : ((gs8 hs).map (·.id)).Nodup) : (es.toList.map (entH (gs8 hs))).Perm (gs8 hs) := by
  have h1 := (h.keys (hm_keys hn)).map (fun id => (lkH (gs8 hs) id).getD ⟨0, ⟨#[]⟩, [], [], 0⟩)
  rw [List.map_map, List.map_map] at h1
  have h2 : (gs8 hs).map ((fun id => (lkH (gs8 hs) id).getD ⟨0, ⟨#[]⟩, [], [], 0⟩) ∘ fun x => x.id) = gs8 hs := by
    rw [List.map_congr_left (g := id) (fun q hq => ?_), List.map_id]
    show (lkH (gs8 hs) q.id).getD _ = q
    rw [lkH_of hn hq]; rfl
  rw [h2] at h1
  exact h1
theorem entH_at {P : Program} {kt : TypeId} {es : Array MapEntry} {ck : Nat} {hs : List HM} (h : MapC P kt es ck (hmM hs)) {e : MapEntry} (he : e ∈ es.toList) : ∃ a y c, hs = a ++ y :: c ∧ e = ⟨.int .i64 y.g.id, .pointer (some ⟨y.p, 0, none⟩), e.born⟩ ∧ entH (gs8 hs) e = y.g := by
  have h1 := h.entry he
  obtain ⟨k, v, bn⟩ := e
  dsimp only at h1 ⊢
  unfold hmM at h1
  split at h1
  · rename_i id
    cases hl : lkM8 hs id with
    | none => rw [hl] at h1; cases h1
    | some y =>
      rw [hl] at h1
      injection h1 with h1
      obtain ⟨a, c, h2, h3, _⟩ := lkM8_split hl
      refine ⟨a, y, c, h2, by rw [h3, ← h1], ?_⟩
      unfold entH
      have h4 := lkM8_g hs id
      rw [hl] at h4
      show (lkH (gs8 hs) id).getD _ = _
      rw [h4]; rfl
  · cases h1
def szH (M : Nat) (h : HG) : Prop := h.name.size ≤ M ∧ ∀ o ∈ h.oth, o.size ≤ M
theorem sz_acc {M : Nat} {hs hs' : List HG} {f : FD} (h2 : ∀ h ∈ hs, szH M h) (hf : f.txt.size ≤ M) (ha : accS hs f = some hs') : ∀ h ∈ hs', szH M h := by
  unfold accS at ha
  cases hl : lkH hs f.hd with
  | none =>
    rw [hl] at ha
    dsimp only at ha
    split at ha
    · injection ha with ha
      subst ha
      intro h hh
      rcases List.mem_append.1 hh with hh | hh
      · exact h2 h hh
      · rw [List.mem_singleton.1 hh]; exact ⟨hf, fun o ho => (by cases ho)⟩
    · cases ha
  | some g =>
    rw [hl] at ha
    have hg := h2 g (lkH_mem hl).1
    have key : ∀ g' : HG, szH M g' → ∀ h ∈ setH hs g', szH M h := fun g' h' h hh => by
      rcases setH_mem hh with hh | rfl
      · exact h2 h hh
      · exact h'
    have more : ∀ t : ByteArray, t.size ≤ M → ∀ o ∈ g.oth ++ [t], o.size ≤ M := fun t ht o ho => by
      rcases List.mem_append.1 ho with ho | ho
      · exact hg.2 o ho
      · rw [List.mem_singleton.1 ho]; exact ht
    dsimp only at ha
    split at ha
    · cases ha
    split at ha
    · cases ha
    split at ha
    · injection ha with ha; subst ha; exact key _ ⟨hf, more _ hg.1⟩
    split at ha
    · injection ha with ha; subst ha; exact key _ ⟨hg.1, more _ hf⟩
    split at ha
    · cases ha
    split at ha
    · cases ha
    split at ha
    · injection ha with ha; subst ha; exact key _ hg
    · injection ha with ha; subst ha; exact key _ hg
theorem sz_st {M : Nat} : ∀ (fs : List FD) (s : SG8), (∀ h ∈ s.hs, szH M h) → (∀ f ∈ fs, f.txt.size ≤ M) → ∀ h ∈ (fs.foldl applyS s).hs, szH M h
  | [], s, h, _ => h
  | f :: l, s, h, hf => by
    refine sz_st l (applyS s f) ?_ fun q hq => hf q (.tail _ hq)
    unfold applyS
    cases ha : accS s.hs f with
    | none => exact h
    | some hs => exact sz_acc h (hf f (.head _)) ha
theorem sz_stF {M : Nat} {fs : List FD} (hf : ∀ f ∈ fs, f.txt.size ≤ M) : ∀ h ∈ (stF fs).hs, szH M h := sz_st fs _ (fun h hh => (by cases hh)) hf
end Go.PK

namespace Go.PK
open Go Go.RowKit Go.Maps
variable {P : Program} {n : Nat} {l : List (Nat × Value)} {own : List (Nat × Obj)} {ro : List Snap} {t t' ty : TypeId} {x y : Operand}
theorem v_nem {p : Option Nat} {q r : TypeId} (ht : P.underlying t = some (.map q r)) (hx : ev l x = some (.map p)) (hy : ev l y = some (.map none)) : OpV P n l own ro (.binOp .neq t x y t') ty (.bool (!p.isNone)) := by
  intro A w o ha _ ho _
  have h : ∀ d : Nat, (Op.equalIn (d + 1) t (.map p) (.map none)).run P w = .ok p.isNone w := fun d => by
    cases p <;> simp [Op.equalIn, run_underlying ht]
  have h2 : (Op.equal t (.map p) (.map none)).run P w = .ok p.isNone w := h 9999
  simp [execOp, ho, ha.eval hx, ha.eval hy, eqGuard, binOp, h2]
theorem ret0r {fn : Func} {R : Ending → World → Prop} {n : Nat} {l : List (Nat × Value)} {own : List (Nat × Obj)} {ro : List Snap} (hr : fn.results = #[]) (h : ∀ w', Mem w' own ro → R (.returned (.tuple #[])) w') : S (bodyPost P fn R .ret) n l own ro := by
  intro a w ha hw
  exact ⟨ha.df, _, results_none hr _ _ _, h w hw⟩
end Go.PK

namespace Go.PK
open Go Go.RowKit
def rowR (T m : Nat) {α : Type} (c : α → List Value) (R : RowS) (xs : List α) (w : World) : Prop := rowOK m R xs.length (xs.flatMap c) ∧ ∀ q ∈ rowO T R, w.heap[q.1]? = some q.2
section
variable {T m : Nat} {α : Type} {c : α → List Value} {R : RowS} {xs : List α} {w w' : World}
theorem rowR.later (h : rowR T m c R xs w) (hl : Later w w') : rowR T m c R xs w' := ⟨h.1, fun q hq => (hl.block _ (heap_lt (h.2 q hq))).trans (h.2 q hq)⟩
theorem flC_get' (hc : ∀ x, (c x).length = m) : ∀ (l : List α) (k i : Nat) (hk : k < l.length), i < m → (l.flatMap c)[k * m + i]? = (c l[k])[i]?
  | x :: l, 0, i, _, hi => by
    rw [List.flatMap_cons, List.getElem?_append_left (by rw [hc]; omega), Nat.zero_mul, Nat.zero_add]; rfl
  | x :: l, k + 1, i, hk, hi => by
    rw [List.flatMap_cons, List.getElem?_append_right (by rw [hc, Nat.add_mul]; omega), hc, show (k + 1) * m + i - m = k * m + i by rw [Nat.add_mul]; omega]
    exact flC_get' hc l k i (by simpa using hk) hi
theorem row_at (hc : ∀ x, (c x).length = m) (h0 : 0 < m) (h : rowOK m R xs.length (xs.flatMap c)) {k : Nat} (hk : k < xs.length) : ∃ g cs cp, R = some (g, cs, cp) ∧ xs.length ≤ cp ∧ ∀ i, i < m → cs[k * m + i]? = (c xs[k])[i]? := by
  obtain ⟨g, cs, cp, rfl, _⟩ := h.cell (j := 0) (by rw [flC_len hc]; exact Nat.mul_pos (by omega) h0)
  obtain ⟨_, h2, _, h4, h5⟩ := h
  dsimp only at h2 h4 h5
  refine ⟨g, cs, cp, rfl, h2, fun i hi => ?_⟩
  have hlen : k * m + i < xs.length * m := by
    have : (k + 1) * m ≤ xs.length * m := Nat.mul_le_mul_right m hk
    rw [Nat.add_mul] at this
    omega
  rw [← List.getElem?_take_of_lt hlen, h5]
  exact flC_get' hc xs k i hk hi
theorem rowR.cells (hc : ∀ x, (c x).length = m) (h0 : 0 < m) (h : rowR T m c R xs w) {k : Nat} (hk : k < xs.length) : ∃ g cs cp, R = some (g, cs, cp) ∧ xs.length ≤ cp ∧ ∀ i, i < m → w.cell? ⟨g, k * m + i, none⟩ = (c xs[k])[i]? := by
  obtain ⟨g, cs, cp, hR, h2, h3⟩ := row_at hc h0 h.1 hk
  refine ⟨g, cs, cp, hR, h2, fun i hi => ?_⟩
  have hg := h.2 (g, .cells cs.toArray T (0, 0)) (by rw [hR]; exact .head _)
  rw [cell_of_row w g _ _ T (0, 0) hg, List.getElem?_toArray]
  exact h3 i hi
end
theorem Mem.rowR {T m : Nat} {α : Type} {c : α → List Value} {R : RowS} {xs : List α} {w : World} {own : List (Nat × Obj)} {ro : List Snap} (hm : Mem w own ro) (h : rowOK m R xs.length (xs.flatMap c)) (hin : ∀ q ∈ rowO T R, q ∈ own) : PK.rowR T m c R xs w := ⟨h, fun q hq => hm.own_at q (hin q hq)⟩
theorem flat1 {α : Type} (f : α → Value) (l : List α) : l.flatMap (fun x => [f x]) = l.map f := by
  induction l with
  | nil => rfl
  | cons x xs ih => rw [List.flatMap_cons, ih]; rfl
theorem amg_any (ws : List ByteArray) (t : ByteArray) : ws.any (fun x => decide (t = x)) = amg ws t := by
  unfold amg
  congr 1
  funext x
  exact decide_eq_decide.2 eq_comm
def nameF (hs : List HG) (id : Int) : ByteArray × Bool := match lkH hs id with | some h => (h.name, true) | none => (⟨#[]⟩, false)
theorem spl_yes {ws : List ByteArray} {h : HG} {i : Nat} (hi : i < h.spl.length) (hf : fidx (fun q : ByteArray × Int => amg ws q.1) h.spl = (i : Nat)) : splF ws h = h.spl[i].2 := by
  unfold fidx at hf
  unfold splF
  cases hq : h.spl.findIdx? (fun q : ByteArray × Int => amg ws q.1) with
  | none => rw [hq] at hf; dsimp only at hf; omega
  | some j =>
    rw [hq] at hf
    dsimp only at hf
    have hj : j = i := by omega
    subst hj
    obtain ⟨h1, h2, h3⟩ := List.findIdx?_eq_some_iff_getElem.1 hq
    have e : h.spl.find? (fun p : ByteArray × Int => amg ws p.1) = some h.spl[j] := List.find?_eq_some_iff_getElem.2 ⟨h2, j, h1, rfl, fun k hk => by simpa using h3 k hk⟩
    rw [e]
theorem spl_no {ws : List ByteArray} {h : HG} (hf : fidx (fun q : ByteArray × Int => amg ws q.1) h.spl < 0) : splF ws h = 0 := by
  unfold fidx at hf
  unfold splF
  cases hq : h.spl.findIdx? (fun q : ByteArray × Int => amg ws q.1) with
  | none =>
    have e : h.spl.find? (fun p : ByteArray × Int => amg ws p.1) = none := List.find?_eq_none.2 fun x hx => by
      have := List.findIdx?_eq_none_iff.1 hq x hx
      simpa using this
    rw [e]
  | some j => rw [hq] at hf; dsimp only at hf; omega
theorem fidx_lt {α : Type} {p : α → Bool} {xs : List α} (h : 0 ≤ fidx p xs) : ∃ i, i < xs.length ∧ fidx p xs = (i : Nat) := by
  unfold fidx at *
  cases hq : xs.findIdx? p with
  | none => rw [hq] at h; dsimp only at h; omega
  | some j => exact ⟨j, (List.findIdx?_eq_some_iff_getElem.1 hq).1, rfl⟩
theorem EndsN.look {hs : List HG} {ws : List ByteArray} {n : Nat} {id e : Int} (h : EndsN hs ws n id e) : ∃ g, lkH hs id = some g := by
  cases h with
  | stop h1 _ => exact ⟨_, h1⟩
  | go h1 _ _ => exact ⟨_, h1⟩
theorem EndsN.next {hs : List HG} {ws : List ByteArray} {n : Nat} {id e : Int} {h : HG} (hE : EndsN hs ws n id e) (hl : lkH hs id = some h) (h0 : stepR ws h ≠ 0) : ∃ n', n = n' + 1 ∧ EndsN hs ws n' (stepR ws h) e := by
  cases hE with
  | stop h1 h2 => rw [hl] at h1; cases h1; exact absurd h2 h0
  | go h1 h2 h3 => rw [hl] at h1; cases h1; exact ⟨_, rfl, h3⟩
theorem EndsN.fin {hs : List HG} {ws : List ByteArray} {n : Nat} {id e : Int} {h : HG} (hE : EndsN hs ws n id e) (hl : lkH hs id = some h) (h0 : stepR ws h = 0) : e = id := by
  cases hE with
  | stop h1 h2 => rfl
  | go h1 h2 h3 => rw [hl] at h1; cases h1; exact absurd h0 h2
end Go.PK

namespace Go.PK
open Go Go.RowKit
def tagT : ByteArray := ⟨#[50, 52, 53]⟩
def ruledL : List ByteArray := [⟨#[49, 48, 48]⟩, ⟨#[49, 49, 48]⟩, ⟨#[54, 48, 48]⟩, ⟨#[54, 53, 48]⟩, ⟨#[55, 48, 48]⟩]
def titS (subs : List Sb) : ByteArray := subs.foldl (fun a s => if s.code = 97 ∨ s.code = 98 then a ++ (spcB ++ s.text) else a) ⟨#[]⟩
def titF (fs : List Fl) : ByteArray := match fs.find? (fun f => decide (f.tag = tagT)) with | some f => titS f.subs | none => ⟨#[]⟩
def subI (c : UInt8) (l : List Sb) : Int := fidx (fun s : Sb => decide (s.code = c)) l
def txtI (l : List Sb) (i : Int) : ByteArray := match l[i.toNat]? with | some s => s.text | none => ⟨#[]⟩
def numH (hs : List HG) (t : ByteArray) : Option Int := (hs.find? (fun h => decide (itoaS h.id = t))).map (·.id)
def hdF (hs : List HG) (l : List Sb) : Int × Bool :=
  match (if 0 ≤ subI 48 l then numH hs (txtI l (subI 48 l)) else none) with
  | some id => (id, true)
  | none => if 0 ≤ subI 97 l then findF hs (txtI l (subI 97 l)) else (0, false)
def putS (c : UInt8) (t : ByteArray) (front : Bool) (l : List Sb) : List Sb := if 0 ≤ subI c l then l.set (subI c l).toNat ⟨c, t⟩ else if front then ⟨c, t⟩ :: l else l ++ [⟨c, t⟩]
noncomputable def rewS (hs : List HG) (h : Int) (l : List Sb) : List Sb := putS 48 (itoaS h) false (putS 97 (nameF hs h).1 true l)
noncomputable def rewX (hs : List HG) (ttl : ByteArray) (f : Fl) : Fl := if amg ruledL f.tag = true ∧ (hdF hs f.subs).2 = true then { f with subs := rewS hs (resF hs (wordsP ttl) (hdF hs f.subs).1) f.subs } else f
noncomputable def rewF (hs : List HG) (fs : List Fl) : List Fl := fs.map (rewX hs (titF fs))
theorem subI_at {c : UInt8} {l : List Sb} (h : 0 ≤ subI c l) : ∃ i, ∃ hi : i < l.length, subI c l = (i : Nat) ∧ txtI l (subI c l) = l[i].text ∧ l[i].code = c := by
  obtain ⟨i, hi, h1⟩ := fidx_lt h
  refine ⟨i, hi, h1, ?_, ?_⟩
  · rw [show subI c l = (i : Nat) from h1]
    unfold txtI
    rw [Int.toNat_natCast, List.getElem?_eq_getElem hi]
  · have h2 : fidx (fun s : Sb => decide (s.code = c)) l = (i : Nat) := h1
    unfold fidx at h2
    cases hq : l.findIdx? (fun s : Sb => decide (s.code = c)) with
    | none => rw [hq] at h2; dsimp only at h2; omega
    | some j =>
      rw [hq] at h2
      dsimp only at h2
      have hj : j = i := by omega
      subst hj
      have := (List.findIdx?_eq_some_iff_getElem.1 hq).2.1
      exact of_decide_eq_true this
theorem atoi_itoa8 {n : Int} (h : 0 ≤ n) (h2 : n < 1000000000000000000) : Lib.atoi (itoaS n).data.toList = some n := by
  have hsz : (itoaS n).size ≤ 18 := (itoa_sz h 17).2 (by have : (10 : Int) ^ (17 + 1) = 1000000000000000000 := by decide
                                                         omega)
  have hl : (bl (itoaS n)).length ≤ 18 := by rw [bl_len]; exact hsz
  have h1 := atoi_digits (itoa_canon h) hl
  rw [itoa_num h, Lib.atoiAll_short _ hl] at h1
  show Lib.atoi (bl (itoaS n)) = _
  cases hq : Lib.atoi (bl (itoaS n)) with
  | none => rw [hq] at h1; cases h1
  | some v => rw [hq] at h1; injection h1 with h1; rw [h1]
def atoS8 (t : ByteArray) : Int := match Lib.atoi t.data.toList with | some v => v | none => 0
def atoB8 (t : ByteArray) : Bool := (Lib.atoi t.data.toList).isSome
theorem numH_iff {hs : List HG} {t : ByteArray} (hn : (hs.map (·.id)).Nodup) (hp : ∀ h ∈ hs, 1 ≤ h.id ∧ h.id < 1000000000000000000) (id : Int) : numH hs t = some id ↔ atoB8 t = true ∧ atoS8 t = id ∧ itoaS id = t ∧ (lkH hs id).isSome = true := by
  unfold numH
  constructor
  · intro h
    obtain ⟨g, hg, rfl⟩ := Option.map_eq_some_iff.1 h
    have hm := List.mem_of_find?_eq_some hg
    have ht : itoaS g.id = t := of_decide_eq_true (List.find?_some (p := fun h : HG => decide (itoaS h.id = t)) hg)
    obtain ⟨p1, p2⟩ := hp g hm
    have ha := atoi_itoa8 (n := g.id) (by omega) p2
    rw [ht] at ha
    refine ⟨by unfold atoB8; rw [ha]; rfl, by unfold atoS8; rw [ha], ht, by rw [lkH_of hn hm]; rfl⟩
  · rintro ⟨h1, h2, h3, h4⟩
    obtain ⟨g, hg⟩ := Option.isSome_iff_exists.1 h4
    obtain ⟨hm, rfl⟩ := lkH_mem hg
    cases hq : hs.find? (fun h => decide (itoaS h.id = t)) with
    | none =>
      have := List.find?_eq_none.1 hq g hm
      exact absurd (decide_eq_true h3) this
    | some g' =>
      have hm' := List.mem_of_find?_eq_some hq
      have ht' : itoaS g'.id = t := of_decide_eq_true (List.find?_some (p := fun h : HG => decide (itoaS h.id = t)) hq)
      obtain ⟨p1, p2⟩ := hp g' hm'
      have ha := atoi_itoa8 (n := g'.id) (by omega) p2
      rw [ht'] at ha
      unfold atoS8 at h2
      rw [ha] at h2
      show some g'.id = some g.id
      exact congrArg some h2
end Go.PK
