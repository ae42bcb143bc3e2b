/- Of the proofs of YtnflcekodobdlaaGreatDoor: PkFl8 PkTurnH PkRw2 PkRw3 PkEnc8 PkRef8 PkTak8 PkSerV PkFld8 PkCmp8 PkLaw8 PkFix8 PkBulk PkBulk2 PkTy8 PkOld8 PkOrd8 PkMany8 PkCir8 PkRec8 PkOwnG PkChg8 PkInvS PkTurnK PkFol8 PkSpl8 PkOrdT PkLin8 PkZ, put together. -/
import Derived.Test.YtnflcekodobdlaaGreatDoorW2
import Derived.Test.YtnflcekodobdlaaGreatDoorW1
set_option linter.unusedVariables false
set_option linter.unusedSimpArgs false
set_option maxRecDepth 100000

namespace Go.PK
open Go Go.RowKit
theorem sb8_at {D : Nat → Prop} {w : World} {A : Option Addr} {cp : Nat} {xs : List Sb} (h : sliceRd tySb D w (.slice A xs.length cp) xs) {k : Nat} (hk : k < xs.length) : ∃ b o, A = some ⟨b, o, none⟩ ∧ D b ∧ ∀ j (hj : j < (sbC xs[k]).length), w.cell? ⟨b, o + k * 2 + j, none⟩ = some (sbC xs[k])[j] := by
  obtain ⟨A', c', hv, h1, h2, h3⟩ := h
  injection hv with e1 e2 e3
  subst e1 e3
  obtain ⟨b, o, e, hD, _, hc⟩ := h3 (by omega)
  obtain ⟨cs, k1, k2, _⟩ := hc k hk
  subst k2
  exact ⟨b, o, e, hD, fun j hj => k1 j hj⟩
def flV8 (f : Fl) (v : Value) : List Value := [.string f.tag, .string f.ind, .string f.data, v]
theorem fl8_at {D : Nat → Prop} {w : World} {A : Option Addr} {cp : Nat} {xs : List Fl} (h : sliceRd tyFl D w (.slice A xs.length cp) xs) {k : Nat} (hk : k < xs.length) : ∃ b o v, A = some ⟨b, o, none⟩ ∧ D b ∧ (∀ j (hj : j < (flV8 xs[k] v).length), w.cell? ⟨b, o + k * 4 + j, none⟩ = some (flV8 xs[k] v)[j]) ∧ sliceRd tySb D w v xs[k].subs ∧ xs[k].ok := by
  obtain ⟨A', c', hv, h1, h2, h3⟩ := h
  injection hv with e1 e2 e3
  subst e1 e3
  obtain ⟨b, o, e, hD, _, hc⟩ := h3 (by omega)
  obtain ⟨cs, k1, v, k2, k3, k4⟩ := hc k hk
  subst k2
  exact ⟨b, o, v, e, hD, fun j hj => k1 j hj, k4, k3⟩
theorem code_eq {a b : UInt8} : (((a.toNat : Nat) : Int) = ((b.toNat : Nat) : Int)) ↔ a = b := by
  rw [Int.ofNat_inj]
  exact UInt8.toNat_inj
theorem titS_step {l : List Sb} {j : Nat} (h : j < l.length) : titS (l.take (j + 1)) = if l[j].code = 97 ∨ l[j].code = 98 then titS (l.take j) ++ (spcB ++ l[j].text) else titS (l.take j) := by
  unfold titS
  rw [List.take_succ_eq_append_getElem h, List.foldl_append]; rfl
theorem titF_at {fs : List Fl} {k : Nat} (h : k < fs.length) (ht : fs[k].tag = tagT) (hn : ∀ j (hj : j < fs.length), j < k → fs[j].tag ≠ tagT) : titF fs = titS fs[k].subs := by
  have e : fs.find? (fun f => decide (f.tag = tagT)) = some fs[k] := List.find?_eq_some_iff_getElem.2 ⟨decide_eq_true ht, k, h, rfl, fun j hj => by rw [decide_eq_false (hn j (by omega) hj)]; rfl⟩
  unfold titF
  rw [e]
theorem titF_no {fs : List Fl} (hn : ∀ j (hj : j < fs.length), fs[j].tag ≠ tagT) : titF fs = ⟨#[]⟩ := by
  have e : fs.find? (fun f => decide (f.tag = tagT)) = none := List.find?_eq_none.2 fun x hx => by
    obtain ⟨j, hj, rfl⟩ := List.getElem_of_mem hx
    rw [decide_eq_false (hn j hj)]; exact Bool.false_ne_true
  unfold titF
  rw [e]
theorem txtI_at {l : List Sb} {i : Nat} (h : i < l.length) : txtI l (i : Nat) = l[i].text := by
  unfold txtI
  rw [Int.toNat_natCast, List.getElem?_eq_getElem h]
theorem titS_size {l : List Sb} (h : ∀ s ∈ l, s.text.size ≤ 1000) : ∀ j, j ≤ l.length → (titS (l.take j)).size ≤ j * 1001
  | 0, _ => by rw [List.take_zero]; exact Nat.zero_le _
  | j + 1, hj => by
    have h1 := titS_size h j (by omega)
    have h2 := h _ (List.getElem_mem (show j < l.length by omega))
    rw [titS_step (by omega), Nat.add_mul, Nat.one_mul]
    split
    · rw [ByteArray.size_append, ByteArray.size_append, show spcB.size = 1 from rfl]; omega
    · exact Nat.le_trans h1 (Nat.le_add_right _ _)
def smFl (f : Fl) : Prop := f.subs.length ≤ 1000 ∧ ∀ s ∈ f.subs, s.text.size ≤ 1000
theorem titF_size {fs : List Fl} (h : ∀ f ∈ fs, smFl f) : (titF fs).size ≤ 1001000 := by
  unfold titF
  cases hq : fs.find? (fun f => decide (f.tag = tagT)) with
  | none => exact Nat.zero_le _
  | some f =>
    obtain ⟨h1, h2⟩ := h f (List.mem_of_find?_eq_some hq)
    have h3 := titS_size h2 _ (Nat.le_refl _)
    rw [List.take_length] at h3
    dsimp only
    omega
end Go.PK

namespace Go.PK
open Go Go.RowKit
section
variable {P : Program} {n : Nat} {l : List (Nat × Value)} {own oF : List (Nat × Obj)} {ro : List Snap} {lops : List Oper} {Q : Exit → Act → World → Prop} {K : Act → World → Prop} {rest : List (Option Bool × Nat)} {i d j dj : Nat} {want : Bool} {t e : Pl} {op : Op} {ty : TypeId} {pos : String} {af : Array Edge}
theorem j_valg (ho : lops[i]? = some ⟨some d, op, ty, pos, af, some (j, want)⟩) (hj : (lops[j]?).bind (·.dst) = some dj) (hb : l.lookup dj = some (.bool want)) (hd : decide (d < n) = true) {v : Value} (hv : OpV P n l oF ro op ty v)
    (h : S (wpJ P lops.toArray oF ro K t) n ((d, v) :: l) own ro) : S (wpJ P lops.toArray oF ro K (.flt i t)) n l own ro := j_run ho (go_some rfl hj hb) rfl hd hv h
theorem j_boolg (ho : lops[i]? = some ⟨some d, op, ty, pos, af, some (j, want)⟩) (hj : (lops[j]?).bind (·.dst) = some dj) (hb : l.lookup dj = some (.bool want)) (hd : decide (d < n) = true) {b : Bool} (hv : OpV P n l oF ro op ty (.bool b))
    (h : ∀ c, c = b → S (wpJ P lops.toArray oF ro K t) n ((d, .bool c) :: l) own ro) : S (wpJ P lops.toArray oF ro K (.flt i t)) n l own ro := j_valg ho hj hb hd hv (h b rfl)
theorem j_callvg {f : FuncId} {fn : Func} {xs : Array Operand} {tys : Array TypeId} {vs : List Value} (ho : lops[i]? = some ⟨some d, .call ⟨.value (.func f), xs, tys⟩, ty, pos, af, some (j, want)⟩) (hj : (lops[j]?).bind (·.dst) = some dj) (hb : l.lookup dj = some (.bool want)) (hd : decide (d < n) = true)
    (hf : P.funcs[f]? = some fn) (hbody : (!(fn.name == "runtime.NumGoroutine") && fn.body.isSome) = true) (hx : evs l xs.toList = some vs) {v : Value}
    (hc : ∀ w, Mem w oF ro → Calls P f vs.toArray w fun e w' => e = .returned v ∧ Later w w')
    (h : S (wpJ P lops.toArray oF ro K t) n ((d, v) :: l) own ro) : S (wpJ P lops.toArray oF ro K (.flt i t)) n l own ro := fun a w ha hw => by
  have hd' : d < n := of_decide_eq_true hd
  unfold wpJ
  simp only [List.getElem?_toArray, ho]
  rw [if_pos (go_some (lops := lops) (n := n) (l := l) (o := ⟨some d, .call ⟨.value (.func f), xs, tys⟩, ty, pos, af, some (j, want)⟩) rfl hj hb a ha)]
  refine ⟨v, fun w' hw' => ?_, h _ w (ha.put v hd') hw⟩
  unfold fltAt
  rw [run_callv (c := .func f) (fst := #[]) (cap := #[]) rfl ha rfl hf hbody hx]
  have := hc w' hw'
  exact ⟨rfl, by simpa using this⟩
theorem x_turnVg {τ : Type} {f : FuncId} {fn : Func} {xs : Array Operand} {tys : Array TypeId} {vs : List Value} (V : τ → Value) (R : τ → Prop) (O : τ → List (Nat × Obj)) (ho : lops[i]? = some ⟨some d, .call ⟨.value (.func f), xs, tys⟩, ty, pos, af, some (j, want)⟩) (hj : (lops[j]?).bind (·.dst) = some dj) (hb : l.lookup dj = some (.bool want)) (hd : decide (d < n) = true)
    (hf : P.funcs[f]? = some fn) (hbody : (!(fn.name == "runtime.NumGoroutine") && fn.body.isSome) = true) (hx : evs l xs.toList = some vs)
    (hc : ∀ w, Mem w own ro → Calls P f vs.toArray w fun e w' => ∃ x, e = .returned (V x) ∧ R x ∧ Mem w' (O x) ro)
    (h : ∀ x, R x → WX P lops.toArray Q K rest n ((d, V x) :: l) (O x) ro) : WX P lops.toArray Q K ((none, i) :: rest) n l own ro := by
  intro a w ha hw
  have hd' : d < n := of_decide_eq_true hd
  have hw1 := go_some (lops := lops) (n := n) (l := l) (o := ⟨some d, .call ⟨.value (.func f), xs, tys⟩, ty, pos, af, some (j, want)⟩) rfl hj hb a ha
  simp only [wpX, List.getElem?_toArray, ho]
  intro w' hl
  rw [if_pos hw1]
  unfold Oper.wp
  have hc' : ∀ w, Mem w own ro → Calls P f ((#[] : Array Value) ++ vs.toArray ++ #[]) w fun e w' => ∃ x, e = .returned (V x) ∧ R x ∧ Mem w' (O x) ro := by simpa using hc
  rw [run_callv (fst := #[]) (cap := #[]) rfl ha rfl hf hbody hx]
  refine Calls.mono (hc' w' (hw.later hl)) fun e w2 he => ?_
  obtain ⟨x, rfl, hr, hm⟩ := he
  exact h x hr _ w2 (ha.put _ hd') hm
end
end Go.PK

namespace Go.PK
open Go Go.RowKit
structure FE where
  f : Fl
  v : Value
  S : RowS
def feC (e : FE) : List Value := flV8 e.f e.v
def goodE (ws : World) (D : Nat → Prop) (e : FE) : Prop := (e.S = none ∧ sliceRd tySb D ws e.v e.f.subs) ∨ (e.v = rowV e.S e.f.subs.length ∧ rowOK 2 e.S e.f.subs.length (e.f.subs.flatMap sbC))
def okFl (f : Fl) : Prop := f.ok ∧ ∀ s ∈ f.subs, okS s.text
theorem fl_list {D : Nat → Prop} {w : World} : ∀ {css : List (List Value)} {xs : List Fl}, css.length = xs.length → (∀ j (h1 : j < css.length) (h2 : j < xs.length), tyFl.rd D w css[j] xs[j]) → ∃ es : List FE, es.map (·.f) = xs ∧ (∀ e ∈ es, e.S = none ∧ sliceRd tySb D w e.v e.f.subs ∧ e.f.ok) ∧ css.flatten = es.flatMap feC
  | [], [], _, _ => ⟨[], rfl, fun e h => (by cases h), rfl⟩
  | c :: css, x :: xs, hl, h => by
    obtain ⟨v, h1, h2, h3⟩ := h 0 (by simp) (by simp)
    obtain ⟨es, e1, e2, e3⟩ := fl_list (css := css) (xs := xs) (by simpa using hl) (fun j h1 h2 => h (j + 1) (by simpa using h1) (by simpa using h2))
    simp only [List.getElem_cons_zero] at h1 h2 h3
    refine ⟨⟨x, v, none⟩ :: es, by rw [List.map_cons, e1], fun e he => ?_, by rw [List.flatten_cons, List.flatMap_cons, e3, h1]; rfl⟩
    rcases List.mem_cons.1 he with rfl | he
    · exact ⟨rfl, h3, h2⟩
    · exact e2 e he
theorem fl_cells {D : Nat → Prop} {w : World} {A : Option Addr} {cp : Nat} {xs : List Fl} (h : sliceRd tyFl D w (.slice A xs.length cp) xs) (hne : xs ≠ []) : ∃ b o, ∃ es : List FE, A = some ⟨b, o, none⟩ ∧ D b ∧ es.map (·.f) = xs ∧ (∀ e ∈ es, e.S = none ∧ sliceRd tySb D w e.v e.f.subs ∧ e.f.ok) ∧ ∀ j (hj : j < (es.flatMap feC).length), w.cell? ⟨b, o + j, none⟩ = some (es.flatMap feC)[j] := by
  obtain ⟨css, h1, _, _, h4, _, h6, h7⟩ := h.cells
  obtain ⟨es, e1, e2, e3⟩ := fl_list h1 h4
  obtain ⟨b, o, hA, hD, _⟩ := h7 (List.length_pos_iff.2 hne)
  refine ⟨b, o, es, hA, hD, e1, e2, fun j hj => ?_⟩
  have h9 := h6 ⟨b, o, none⟩ hA j _ (by rw [e3]; exact List.getElem?_eq_getElem hj)
  have e9 : (⟨b, o, none⟩ : Addr).add j = ⟨b, o + j, none⟩ := by unfold Addr.add; split <;> simp_all
  rwa [e9] at h9
theorem sb_cells {D : Nat → Prop} {w : World} {A : Option Addr} {cp : Nat} {xs : List Sb} (h : sliceRd tySb D w (.slice A xs.length cp) xs) (hne : xs ≠ []) : ∃ b o, A = some ⟨b, o, none⟩ ∧ D b ∧ (∀ s ∈ xs, okS s.text) ∧ ∀ j (hj : j < (xs.flatMap sbC).length), w.cell? ⟨b, o + j, none⟩ = some (xs.flatMap sbC)[j] := by
  obtain ⟨css, h1, _, _, h4, _, h6, h7⟩ := h.cells
  obtain ⟨e3, e4⟩ := tySb_cells h1 h4
  obtain ⟨b, o, hA, hD, _⟩ := h7 (List.length_pos_iff.2 hne)
  refine ⟨b, o, hA, hD, e4, fun j hj => ?_⟩
  have h9 := h6 ⟨b, o, none⟩ hA j _ (by rw [e3]; exact List.getElem?_eq_getElem hj)
  have e9 : (⟨b, o, none⟩ : Addr).add j = ⟨b, o + j, none⟩ := by unfold Addr.add; split <;> simp_all
  rwa [e9] at h9
theorem sl_one {α : Type} {T : Ty α} {D : Nat → Prop} {w : World} {v : Value} {xs : List α} (h : sliceRd T D w v xs) : v.oneCell' = true := by
  obtain ⟨A, c, rfl, _⟩ := h; rfl
theorem goodE_one {ws : World} {D : Nat → Prop} {e : FE} (h : goodE ws D e) : e.v.oneCell' = true := by
  rcases h with ⟨_, h⟩ | ⟨h, _⟩
  · exact sl_one h
  · rw [h]; cases e.S <;> rfl
theorem feC_one {ws : World} {D : Nat → Prop} {es : List FE} (h : ∀ e ∈ es, goodE ws D e) : (es.flatMap feC).all (fun u => u.oneCell') = true := by
  rw [List.all_eq_true]
  intro u hu
  obtain ⟨e, he, hu⟩ := List.mem_flatMap.1 hu
  simp only [feC, flV8, List.mem_cons, List.mem_nil_iff, or_false] at hu
  rcases hu with rfl | rfl | rfl | rfl
  · rfl
  · rfl
  · rfl
  · exact goodE_one (h e he)
theorem srow_rd {T : TypeId} {own : List (Nat × Obj)} {ro : List Snap} {w : World} {D : Nat → Prop} {S : RowS} {xs : List Sb} (hr : rowOK 2 S xs.length (xs.flatMap sbC)) (hok : ∀ s ∈ xs, okS s.text) (hm : Mem w own ro) (hin : ∀ p ∈ rowO T S, p ∈ own) (hD : ∀ p ∈ rowO T S, D p.1) : sliceRd tySb D w (rowV S xs.length) xs := by
  have h : RowT tySb (fun _ => False) w S xs := ⟨xs.map sbC, by simp, by rw [← List.flatMap_def]; exact hr, fun j a1 a2 => by
    rw [List.getElem_map]; exact ⟨rfl, hok _ (List.getElem_mem a2)⟩⟩
  exact h.rd hm hin (fun _ hx => hx.elim) hD rfl
theorem goodE.rd {T : TypeId} {own : List (Nat × Obj)} {ro : List Snap} {w ws : World} {D D' : Nat → Prop} {e : FE} (h : goodE ws D e) (hok : okFl e.f) (hm : Mem w own ro) (hsn : (ws, D) ∈ ro) (hin : ∀ p ∈ rowO T e.S, p ∈ own) (h1 : ∀ k, D k → k < ws.heap.size → D' k) (h2 : ∀ p ∈ rowO T e.S, D' p.1) : sliceRd tySb D' w e.v e.f.subs := by
  rcases h with ⟨_, h⟩ | ⟨hv, h⟩
  · exact h.keep fun k hk hlt => ⟨h1 k hk hlt, hm.ro_at _ hsn k hk hlt⟩
  · rw [hv]; exact srow_rd h hok.2 hm hin h2
theorem fe_rd {TF T : TypeId} {own : List (Nat × Obj)} {ro : List Snap} {w ws : World} {D D' : Nat → Prop} {es : List FE} {C : RowS} (hm : Mem w own ro) (hsn : (ws, D) ∈ ro) (hC : rowOK 4 C es.length (es.flatMap feC)) (hg : ∀ e ∈ es, goodE ws D e ∧ okFl e.f) (hin : ∀ p ∈ rowO TF C, p ∈ own) (hinE : ∀ e ∈ es, ∀ p ∈ rowO T e.S, p ∈ own)
    (h1 : ∀ k, D k → k < ws.heap.size → D' k) (h2 : ∀ e ∈ es, ∀ p ∈ rowO T e.S, D' p.1) (h3 : ∀ p ∈ rowO TF C, D' p.1) : sliceRd tyFl D' w (rowV C es.length) (es.map (·.f)) := by
  have h : RowT tyFl D' w C (es.map (·.f)) := ⟨es.map feC, by simp, by rw [← List.flatMap_def, List.length_map]; exact hC, fun j a1 a2 => by
    have a3 : j < es.length := by simpa using a1
    rw [List.getElem_map, List.getElem_map]
    have he := List.getElem_mem a3
    obtain ⟨g1, g2⟩ := hg _ he
    exact ⟨es[j].v, rfl, g2.1, g1.rd g2 hm hsn (hinE _ he) h1 (h2 _ he)⟩⟩
  exact h.rd hm hin (fun _ h => h) h3 (by simp)
theorem putS_at {c : UInt8} {t : ByteArray} {b : Bool} {l : List Sb} {i : Nat} (h : subI c l = (i : Nat)) : putS c t b l = l.set i ⟨c, t⟩ := by
  unfold putS
  rw [if_pos (by omega), h, Int.toNat_natCast]
theorem putS_front {c : UInt8} {t : ByteArray} {l : List Sb} (h : ¬0 ≤ subI c l) : putS c t true l = ⟨c, t⟩ :: l := by
  unfold putS
  rw [if_neg h, if_pos rfl]
theorem putS_back {c : UInt8} {t : ByteArray} {l : List Sb} (h : ¬0 ≤ subI c l) : putS c t false l = l ++ [⟨c, t⟩] := by
  unfold putS
  rw [if_neg h]; rfl
theorem putS_len {c : UInt8} {t : ByteArray} {b : Bool} {l : List Sb} : (putS c t b l).length ≤ l.length + 1 := by
  unfold putS
  split
  · rw [List.length_set]; omega
  · split
    · exact Nat.le_refl _
    · rw [List.length_append]; exact Nat.le_refl _
theorem putS_mem {c : UInt8} {t : ByteArray} {b : Bool} {l : List Sb} {s : Sb} (h : s ∈ putS c t b l) : s ∈ l ∨ s = ⟨c, t⟩ := by
  unfold putS at h
  split at h
  · exact List.mem_or_eq_of_mem_set h
  · split at h
    · rcases List.mem_cons.1 h with rfl | h
      · exact .inr rfl
      · exact .inl h
    · rcases List.mem_append.1 h with h | h
      · exact .inl h
      · exact .inr (List.mem_singleton.1 h)
end Go.PK

namespace Go.PK
open Go Go.RowKit
theorem row_put {α : Type} {c : α → List Value} {m g cp : Nat} {cs : List Value} {xs : List α} (hc : ∀ x, (c x).length = m) (h : rowOK m (some (g, cs, cp)) xs.length (xs.flatMap c)) {i : Nat} (hi : i < xs.length) (x : α) : rowOK m (some (g, cs.take (i * m) ++ c x ++ cs.drop (i * m + m), cp)) (xs.set i x).length ((xs.set i x).flatMap c) := by
  obtain ⟨h1, h2, h3, h4, h5⟩ := h
  dsimp only at h2 h4 h5
  have him : i * m + m ≤ xs.length * m := by
    have := Nat.mul_le_mul_right m hi
    rw [Nat.succ_mul] at this; exact this
  have hcp : xs.length * m ≤ cs.length := by rw [h4]; exact Nat.mul_le_mul_right m h2
  have hl1 : (cs.take (i * m)).length = i * m := by rw [List.length_take]; omega
  have e1 : cs.take (i * m) = (xs.take i).flatMap c := by rw [← flC_take hc, ← h5, List.take_take, Nat.min_eq_left (by omega)]
  have e2 : (cs.drop (i * m + m)).take ((xs.length - (i + 1)) * m) = (xs.drop (i + 1)).flatMap c := by
    rw [← flC_drop hc, ← h5, List.drop_take, Nat.succ_mul, Nat.sub_mul, Nat.succ_mul]
  have hset : (xs.set i x).flatMap c = (xs.take i).flatMap c ++ (c x ++ (xs.drop (i + 1)).flatMap c) := by
    rw [List.set_eq_take_append_cons_drop, if_pos hi, List.flatMap_append, List.flatMap_cons]
  refine ⟨by rw [flC_len hc], by rw [List.length_set]; exact h2, h3, ?_, ?_⟩
  · dsimp only
    rw [List.length_append, List.length_append, hl1, hc, List.length_drop]; omega
  · dsimp only
    have t1 : ∀ (A B C : List Value) (N a b : Nat), A.length = a → B.length = b → a + b ≤ N → (A ++ (B ++ C)).take N = A ++ (B ++ C.take (N - a - b)) := fun A B C N a b h1 h2 h3 => by
      rw [List.take_append, List.take_of_length_le (by omega), List.take_append, List.take_of_length_le (by omega), h1, h2]
    rw [List.length_set, hset, ← e1, ← e2, List.append_assoc, t1 _ _ _ _ _ _ hl1 (hc x) him]
    congr 4
    rw [Nat.sub_mul, Nat.succ_mul]
    omega
theorem rw_step {fs : List Fl} {es : List FE} {k : Nat} {g : Fl → Fl} (h : es.map (·.f) = (fs.take k).map g ++ fs.drop k) (hk : k < fs.length) (hk2 : k < es.length) : es[k].f = fs[k] ∧ (g fs[k] = fs[k] → es.map (·.f) = (fs.take (k + 1)).map g ++ fs.drop (k + 1)) ∧ ∀ e', e'.f = g fs[k] → (es.set k e').map (·.f) = (fs.take (k + 1)).map g ++ fs.drop (k + 1) := by
  have hl : ((fs.take k).map g).length = k := by rw [List.length_map, List.length_take]; omega
  have hd : fs.drop k = fs[k] :: fs.drop (k + 1) := List.drop_eq_getElem_cons hk
  have e1 : es[k].f = fs[k] := by
    have : (es.map (·.f))[k]? = some fs[k] := by rw [h, List.getElem?_append_right (by omega), hl, Nat.sub_self, hd]; rfl
    rw [List.getElem?_map, List.getElem?_eq_getElem hk2] at this
    exact Option.some.inj this
  have e2 : (fs.take (k + 1)).map g = (fs.take k).map g ++ [g fs[k]] := by rw [List.take_succ_eq_append_getElem hk, List.map_append]; rfl
  refine ⟨e1, fun hg => by rw [h, e2, hg, hd, List.append_assoc]; rfl, fun e' he => ?_⟩
  rw [List.map_set, h, e2, he, hd, List.set_append_right _ _ (by omega), hl, Nat.sub_self, List.append_assoc]; rfl
theorem leastB_mem {p : HG → Bool} {l : List HG} (hp : ∀ h ∈ l, 1 ≤ h.id) (h0 : leastB p l ≠ 0) : ∃ h ∈ l, h.id = leastB p l := by
  rcases leastB_is p l hp with ⟨h, _⟩ | ⟨⟨h, hh, _, hi⟩, _⟩
  · exact absurd h h0
  · exact ⟨h, hh, hi⟩
theorem findF_look {hs : List HG} (ha : Acy hs) {t : ByteArray} (h : (findF hs t).2 = true) : (lkH hs (findF hs t).1).isSome = true := by
  have hp : ∀ h ∈ hs, 1 ≤ h.id := fun h hh => (ha.pos h hh).1
  unfold findF at h ⊢
  split at h
  · cases h
  · rename_i hs0
    rw [if_neg hs0]
    have h0 : findT hs (foldS t) ≠ 0 := of_decide_eq_true h
    have : ∃ g ∈ hs, g.id = findT hs (foldS t) := by
      unfold findT at h0 ⊢
      split at h0
      · rename_i h1; rw [if_pos h1]; exact leastB_mem hp h0
      · rename_i h1; rw [if_neg h1]; exact leastB_mem hp h0
    obtain ⟨g, hg, he⟩ := this
    dsimp only
    rw [← he, lkH_of ha.ids hg]; rfl
theorem numH_look {hs : List HG} (ha : Acy hs) {t : ByteArray} {id : Int} (h : numH hs t = some id) : (lkH hs id).isSome = true := by
  unfold numH at h
  obtain ⟨g, hg, rfl⟩ := Option.map_eq_some_iff.1 h
  rw [lkH_of ha.ids (List.mem_of_find?_eq_some hg)]; rfl
theorem hdF_look {hs : List HG} (ha : Acy hs) {l : List Sb} (h : (hdF hs l).2 = true) : (lkH hs (hdF hs l).1).isSome = true := by
  unfold hdF at h ⊢
  cases hq : (if 0 ≤ subI 48 l then numH hs (txtI l (subI 48 l)) else none) with
  | some id =>
    split at hq
    · exact numH_look ha hq
    · cases hq
  | none =>
    rw [hq] at h
    dsimp only at h ⊢
    split at h
    · rename_i h1; rw [if_pos h1]; exact findF_look ha h
    · cases h
theorem rewX_no {hs : List HG} {ttl : ByteArray} {f : Fl} (h : ¬(amg ruledL f.tag = true ∧ (hdF hs f.subs).2 = true)) : rewX hs ttl f = f := by unfold rewX; rw [if_neg h]
theorem rewX_yes {hs : List HG} {ttl : ByteArray} {f : Fl} (h1 : amg ruledL f.tag = true) (h2 : (hdF hs f.subs).2 = true) : rewX hs ttl f = { f with subs := rewS hs (resF hs (wordsP ttl) (hdF hs f.subs).1) f.subs } := by unfold rewX; rw [if_pos ⟨h1, h2⟩]
def EOs (T : TypeId) (es : List FE) : List (Nat × Obj) := es.flatMap fun e => rowO T e.S
theorem EO_set {T : TypeId} {es : List FE} {k : Nat} (hk : k < es.length) (h0 : es[k].S = none) (e' : FE) : (EOs T (es.set k e')).Perm (rowO T e'.S ++ EOs T es) := by
  have e1 : es = es.take k ++ es[k] :: es.drop (k + 1) := by rw [List.getElem_cons_drop, List.take_append_drop]
  have h1 : EOs T es = EOs T (es.take k) ++ EOs T (es.drop (k + 1)) := by
    unfold EOs
    conv => lhs; rw [e1]
    rw [List.flatMap_append, List.flatMap_cons, h0]; rfl
  have h2 : EOs T (es.set k e') = EOs T (es.take k) ++ (rowO T e'.S ++ EOs T (es.drop (k + 1))) := by
    unfold EOs
    rw [List.set_eq_take_append_cons_drop, if_pos hk, List.flatMap_append, List.flatMap_cons]
  rw [h1, h2, ← List.append_assoc, ← List.append_assoc]
  exact List.perm_append_comm.append_right _
theorem EO_none {T : TypeId} {es : List FE} (h : ∀ e ∈ es, e.S = none) : EOs T es = [] := by
  unfold EOs
  rw [List.flatMap_eq_nil_iff]
  intro e he
  rw [h e he]; rfl
theorem EO_mem {T : TypeId} {es : List FE} {e : FE} (he : e ∈ es) {p : Nat × Obj} (hp : p ∈ rowO T e.S) : p ∈ EOs T es := List.mem_flatMap.2 ⟨e, he, hp⟩
end Go.PK

namespace Go.PK
open Go Go.RowKit
end Go.PK

namespace Go.PK
open Go Go.RowKit
theorem runesF_le (s : ByteArray) : ∀ (n i : Nat), ∀ c ∈ runesF s n i, c ≤ 2147483647
  | 0, i, c, h => by cases h
  | n + 1, i, c, h => by
    unfold runesF at h
    split at h
    · rcases List.mem_cons.1 h with rfl | h
      · exact decode_le _ _
      · exact runesF_le s n _ c h
    · cases h
theorem runes_le (s : ByteArray) : ∀ c ∈ runes s, c ≤ 2147483647 := runesF_le s _ _
theorem wf_stop {w : ByteArray} : wordsF [] w = if w.size = 0 then [] else [w] := by unfold wordsF; rfl
theorem wf_go {c : Nat} {r : List Nat} {w : ByteArray} (h : foldC c ≠ spcB) : wordsF (c :: r) w = wordsF r (w ++ foldC c) := by rw [wordsF, if_neg h]
theorem wf_cut {c : Nat} {r : List Nat} {w : ByteArray} (h : foldC c = spcB) (hw : w.size ≠ 0) : wordsF (c :: r) w = w :: wordsF r ⟨#[]⟩ := by rw [wordsF, if_pos h, if_neg hw]
theorem wf_blank {c : Nat} {r : List Nat} {w : ByteArray} (h : foldC c = spcB) (hw : w.size = 0) : wordsF (c :: r) w = wordsF r ⟨#[]⟩ := by rw [wordsF, if_pos h, if_pos hw]
theorem joinS_snoc : ∀ (l : List ByteArray) (a : ByteArray), joinS (l ++ [a]) = if l = [] then a else joinS l ++ spcB ++ a
  | [], a => by rw [List.nil_append, if_pos rfl]; rfl
  | [x], a => by rw [if_neg (by simp)]; rfl
  | x :: y :: l, a => by
    have h := joinS_snoc (y :: l) a
    rw [if_neg (by simp)] at h ⊢
    show x ++ spcB ++ joinS ((y :: l) ++ [a]) = (x ++ spcB ++ joinS (y :: l)) ++ spcB ++ a
    rw [h]
    simp only [ByteArray.append_assoc]
end Go.PK

namespace Go.PK
open Go Go.RowKit
end Go.PK

namespace Go.PK
open Go Go.RowKit
theorem itoaS_small {n : Int} (h0 : 0 ≤ n) (h : n < 10) : itoaS n = ⟨#[UInt8.ofNat (48 + (n % 10).toNat)]⟩ := by
  apply bl_inj
  rw [itoaS_nn h0, dec_small (by omega), show (n % 10).toNat = n.toNat by omega]; rfl
theorem itoaS_big {n : Int} (h : 10 ≤ n) : itoaS n = itoaS (n / 10) ++ ⟨#[UInt8.ofNat (48 + (n % 10).toNat)]⟩ := by
  apply bl_inj
  rw [bl_app, itoaS_nn (by omega), itoaS_nn (by omega), dec_big (by omega), show n.toNat / 10 = (n / 10).toNat by omega, show n.toNat % 10 = (n % 10).toNat by omega]; rfl
end Go.PK

namespace Go.PK
open Go Go.RowKit
end Go.PK

namespace Go.PK
open Go Go.RowKit
def anyN8 (f : Int → Option Bool) : List Int → Option Bool
  | [] => some false
  | c :: l => match f c, anyN8 f l with | some x, some y => some (x || y) | _, _ => none
def rchN (hs : List HG) (t : Int) : Nat → Int → Option Bool
  | 0, _ => none
  | n + 1, id => if id = t then some true else match lkH hs id with | none => some false | some h => anyN8 (fun c => rchN hs t n c) (edges h)
def accN (n : Nat) (hs : List HG) (x : FD) : Option (Option (List HG)) :=
  match lkH hs x.hd with
  | none => some (if x.kind = 1 then some (hs ++ [⟨x.hd, x.txt, [], [], 0⟩]) else none)
  | some h =>
    if x.kind = 1 then some none
    else if h.into ≠ 0 then some none
    else if x.kind = 2 then some (some (setH hs { h with name := x.txt, oth := h.oth ++ [h.name] }))
    else if x.kind = 3 then some (some (setH hs { h with oth := h.oth ++ [x.txt] }))
    else match lkH hs x.to with
      | none => some none
      | some _ => match rchN hs x.hd n x.to with
        | none => none
        | some true => some none
        | some false => some (some (if x.kind = 4 then setH hs { h with into := x.to } else setH hs { h with spl := h.spl ++ [(foldS x.txt, x.to)] }))
def stN (n : Nat) : List FD → SG8 → Option SG8
  | [], s => some s
  | x :: l, s => match accN n s.hs x with | none => none | some none => stN n l ⟨s.hs, s.ref ++ [x]⟩ | some (some hs) => stN n l ⟨hs, s.ref⟩
def resN8 (hs : List HG) (ws : List ByteArray) : Nat → Int → Option Int
  | 0, _ => none
  | n + 1, id => match lkH hs id with | none => none | some h => if stepR ws h = 0 then some id else resN8 hs ws n (stepR ws h)
theorem anyN8_is {f : Int → Option Bool} {g : Int → Bool} (hfg : ∀ c b, f c = some b → g c = b) : ∀ (l : List Int) (b : Bool), anyN8 f l = some b → l.any g = b
  | [], b, h => by injection h
  | c :: l, b, h => by
    unfold anyN8 at h
    cases h1 : f c with
    | none => rw [h1] at h; cases h
    | some x =>
      cases h2 : anyN8 f l with
      | none => rw [h1, h2] at h; cases h
      | some y =>
        rw [h1, h2] at h
        injection h with h
        rw [List.any_cons, hfg c x h1, anyN8_is hfg l y h2, h]
theorem rchN_is {hs : List HG} {t : Int} : ∀ (n : Nat) (id : Int) (b : Bool), rchN hs t n id = some b → rchB hs t id = b
  | 0, _, _, h => by cases h
  | n + 1, id, b, h => by
    unfold rchN at h
    by_cases h0 : id = t
    · rw [if_pos h0] at h
      injection h with h
      rw [h0, rchB_here, h]
    · rw [if_neg h0] at h
      cases hl : lkH hs id with
      | none =>
        rw [hl] at h
        injection h with h
        rw [← h]
        refine rchB_no.2 fun hr => ?_
        rcases RchH.iff.1 hr with h1 | ⟨g, h1, _⟩
        · exact h0 h1
        · rw [hl] at h1; cases h1
      | some g =>
        rw [hl] at h
        rw [rchB_step hl h0]
        exact anyN8_is (fun c b hb => rchN_is n c b hb) _ _ h
theorem accN_is {n : Nat} {hs : List HG} {x : FD} {r : Option (List HG)} (h : accN n hs x = some r) : accS hs x = r := by
  unfold accN at h
  unfold accS
  cases hl : lkH hs x.hd with
  | none => rw [hl] at h; injection h with h
  | some g =>
    rw [hl] at h
    dsimp only at h ⊢
    by_cases h1 : x.kind = 1
    · rw [if_pos h1] at h ⊢; injection h with h
    rw [if_neg h1] at h ⊢
    by_cases h2 : g.into ≠ 0
    · rw [if_pos h2] at h ⊢; injection h with h
    rw [if_neg h2] at h ⊢
    by_cases h3 : x.kind = 2
    · rw [if_pos h3] at h ⊢; injection h with h
    rw [if_neg h3] at h ⊢
    by_cases h4 : x.kind = 3
    · rw [if_pos h4] at h ⊢; injection h with h
    rw [if_neg h4] at h ⊢
    cases ht : lkH hs x.to with
    | none =>
      rw [ht] at h
      rw [if_pos rfl]; injection h with h
    | some g2 =>
      rw [ht] at h
      rw [if_neg (fun h => by cases h)]
      dsimp only at h
      cases hr : rchN hs x.hd n x.to with
      | none => rw [hr] at h; cases h
      | some b =>
        rw [hr] at h
        have hb := rchN_is n x.to b hr
        cases b with
        | true => rw [if_pos (rchB_iff.1 hb)]; injection h with h
        | false =>
          rw [if_neg (rchB_no.1 hb)]
          injection h with h
          rw [← h]
          by_cases h5 : x.kind = 4
          · rw [if_pos h5, if_pos h5]
          · rw [if_neg h5, if_neg h5]
theorem stN_is {n : Nat} : ∀ (l : List FD) (s r : SG8), stN n l s = some r → l.foldl applyS s = r
  | [], s, r, h => by injection h
  | x :: l, s, r, h => by
    unfold stN at h
    rw [List.foldl_cons]
    cases ha : accN n s.hs x with
    | none => rw [ha] at h; cases h
    | some o =>
      rw [ha] at h
      have h1 := accN_is ha
      cases o with
      | none =>
        rw [show applyS s x = ⟨s.hs, s.ref ++ [x]⟩ by unfold applyS; rw [h1]]
        exact stN_is l _ r h
      | some hs =>
        rw [show applyS s x = ⟨hs, s.ref⟩ by unfold applyS; rw [h1]]
        exact stN_is l _ r h
theorem stF_of {n : Nat} {l : List FD} {r : SG8} (h : stN n l ⟨[], []⟩ = some r) : stF l = r := stN_is l _ r h
theorem resN8_is {hs : List HG} {ws : List ByteArray} : ∀ (n : Nat) (id e : Int), resN8 hs ws n id = some e → ∃ m, EndsN hs ws m id e
  | 0, _, _, h => by cases h
  | n + 1, id, e, h => by
    unfold resN8 at h
    cases hl : lkH hs id with
    | none => rw [hl] at h; cases h
    | some g =>
      rw [hl] at h
      dsimp only at h
      by_cases h0 : stepR ws g = 0
      · rw [if_pos h0] at h
        injection h with h
        subst h
        exact ⟨0, .stop hl h0⟩
      · rw [if_neg h0] at h
        obtain ⟨m, hm⟩ := resN8_is n _ _ h
        exact ⟨m + 1, .go hl h0 hm⟩
theorem resolve_of {hs : List HG} {ws : List ByteArray} {n : Nat} {id e : Int} (h : resN8 hs ws n id = some e) : resolveF hs ws id = (e, true) ∧ resF hs ws id = e := by
  obtain ⟨m, hm⟩ := resN8_is n id e h
  refine ⟨?_, hm.res⟩
  obtain ⟨g, hg⟩ := hm.look
  unfold resolveF
  rw [hg]
  show (resF hs ws id, true) = _
  rw [hm.res]
def takeAll (l : List FD) : List FD := l.foldl (fun a f => (takeF a f).2) []
theorem takeAll_snoc (l : List FD) (f : FD) : takeAll (l ++ [f]) = (takeF (takeAll l) f).2 := by
  unfold takeAll
  rw [List.foldl_append]; rfl
theorem takeAll_ok (l : List FD) : FsOK (takeAll l) := by
  refine snocRec (motive := fun l => FsOK (takeAll l)) FsOK.nil (fun l a h => ?_) l
  rw [takeAll_snoc]
  exact h.take a
def T8a : ByteArray := ⟨#[67, 108, 101, 109, 101, 110, 115, 44, 32, 83, 97, 109, 117, 101, 108]⟩
def T8b : ByteArray := ⟨#[84, 119, 97, 105, 110, 44, 32, 77, 97, 114, 107]⟩
def T8c : ByteArray := ⟨#[84, 119, 97, 105, 110, 44, 32, 77, 46]⟩
def T8d : ByteArray := ⟨#[84, 119, 97, 105, 110, 44, 32, 77, 97, 114, 107, 32, 40, 109, 117, 115, 105, 99, 41]⟩
def T8e : ByteArray := ⟨#[83, 111, 110, 103, 115]⟩
def exF : List FD := [⟨1, 1, 1, 1, 0, T8a⟩, ⟨1, 2, 1, 2, 0, T8b⟩, ⟨1, 3, 3, 2, 0, T8c⟩, ⟨1, 4, 4, 1, 2, ⟨#[]⟩⟩, ⟨1, 5, 1, 3, 0, T8d⟩, ⟨1, 6, 5, 2, 3, T8e⟩]
def ex7 : FD := ⟨1, 7, 4, 3, 1, ⟨#[]⟩⟩
def hs8 : List HG := [⟨1, T8a, [], [], 2⟩, ⟨2, T8b, [T8c], [(⟨#[115, 111, 110, 103, 115]⟩, 3)], 0⟩, ⟨3, T8d, [], [], 0⟩]
theorem ex_st : stN 9 exF ⟨[], []⟩ = some ⟨hs8, []⟩ := by kernel_rfl
theorem ex_all : takeAll exF = exF := by kernel_rfl
theorem ex_take7 : takeF exF ex7 = (0, exF ++ [ex7]) := by kernel_rfl
theorem ex_st7 : stN 9 (exF ++ [ex7]) ⟨[], []⟩ = some ⟨hs8, [ex7]⟩ := by kernel_rfl
theorem ex_find : findF hs8 ⟨#[67, 76, 69, 77, 69, 78, 83, 44, 32, 83, 97, 109, 117, 101, 108]⟩ = (1, true) := by kernel_rfl
theorem ex_r1 : resN8 hs8 (wordsP ⟨#[84, 111, 109, 32, 83, 97, 119, 121, 101, 114]⟩) 9 1 = some 2 := by kernel_rfl
theorem ex_r2 : resN8 hs8 (wordsP ⟨#[79, 108, 100, 32, 115, 111, 110, 103, 115]⟩) 9 1 = some 3 := by kernel_rfl
end Go.PK

namespace Go.PK
open Go Go.RowKit
def nameL : List ByteArray := [T8b, ⟨#[116, 119, 97, 105, 110, 32, 109, 97, 114, 107]⟩, ⟨#[67, 108, 101, 109, 101, 110, 115]⟩, ⟨#[69, 108, 105, 111, 116, 44, 32, 71, 101, 111, 114, 103, 101]⟩, ⟨#[195, 137, 118, 97, 110, 115]⟩, T8e, ⟨#[109, 117, 115, 105, 99]⟩, ⟨#[90, 111, 108, 97]⟩, ⟨#[84, 119, 97, 105, 110]⟩, ⟨#[111, 102]⟩]
def splL : List ByteArray := [⟨#[115, 111, 110, 103, 115]⟩, ⟨#[77, 117, 115, 105, 99]⟩, ⟨#[79, 70]⟩, ⟨#[116, 111, 109]⟩]
def smF (x : FD) : Prop := 1 ≤ x.ag ∧ x.ag ≤ 3 ∧ 1 ≤ x.num ∧ x.num ≤ 64 ∧ 0 ≤ x.kind ∧ x.kind ≤ 5 ∧ 1 ≤ x.hd ∧ x.hd ≤ 8 ∧ 0 ≤ x.to ∧ x.to ≤ 8 ∧ (x.txt = ⟨#[]⟩ ∨ x.txt ∈ nameL ∨ x.txt ∈ splL)
theorem txt_sm {t : ByteArray} (h : t = ⟨#[]⟩ ∨ t ∈ nameL ∨ t ∈ splL) : t.size ≤ 13 := by
  have h1 : ∀ t ∈ nameL ++ splL, t.size ≤ 13 := by decide
  rcases h with h | h | h
  · rw [h]; decide
  · exact h1 t (List.mem_append_left _ h)
  · exact h1 t (List.mem_append_right _ h)
theorem smF.size {x : FD} (h : smF x) : x.txt.size ≤ 13 := txt_sm h.2.2.2.2.2.2.2.2.2.2
theorem take_new {fs : List FD} {x : FD} (hr : rightF x) (h : ∀ y ∈ fs, ¬(y.num = x.num ∧ y.ag = x.ag)) (hm : fs.length < 5000) : takeF fs x = (0, insF fs x) := by
  unfold takeF
  rw [if_neg (fun h => h hr), if_neg (fun hx => h x hx ⟨rfl, rfl⟩), if_neg (fun ⟨y, hy, he⟩ => h y hy he), if_neg (by omega)]
theorem take_zero {fs : List FD} {x : FD} (h : (takeF fs x).1 = 0) : rightF x ∧ (∀ y ∈ fs, ¬(y.num = x.num ∧ y.ag = x.ag)) ∧ fs.length < 5000 ∧ (takeF fs x).2 = insF fs x := by
  unfold takeF at *
  split at h
  · exact absurd h (show ¬((1 : Int) = 0) by decide)
  rename_i h1
  rw [if_neg h1]
  split at h
  · exact absurd h (show ¬((22 : Int) = 0) by decide)
  rename_i h2
  rw [if_neg h2]
  split at h
  · exact absurd h (show ¬((30 : Int) = 0) by decide)
  rename_i h3
  rw [if_neg h3]
  split at h
  · exact absurd h (show ¬((2 : Int) = 0) by decide)
  rename_i h4
  rw [if_neg h4]
  exact ⟨Decidable.not_not.1 h1, fun y hy he => h3 ⟨y, hy, he⟩, by omega, rfl⟩
def apartF (l : List FD) : Prop := l.Pairwise (fun a c => ¬(a.num = c.num ∧ a.ag = c.ag))
theorem all_perm : ∀ (l : List FD), (∀ x ∈ l, rightF x) → apartF l → l.length ≤ 5000 → (takeAll l).Perm l := fun l => by
  refine snocRec (motive := fun l => (∀ x ∈ l, rightF x) → apartF l → l.length ≤ 5000 → (takeAll l).Perm l) (fun _ _ _ => List.Perm.refl _) (fun l a ih hr ha hl => ?_) l
  rw [List.length_append, List.length_singleton] at hl
  have ha2 := List.pairwise_append.1 ha
  have h1 := ih (fun x hx => hr x (List.mem_append_left _ hx)) ha2.1 (by omega)
  rw [takeAll_snoc, take_new (hr a (by simp)) (fun y hy => ha2.2.2 y (h1.mem_iff.1 hy) a (by simp)) (by rw [h1.length_eq]; omega)]
  exact (insF_perm _ _).trans ((h1.cons a).trans (List.perm_append_comm (l₁ := [a])))
theorem srt_ext : ∀ {a c : List FD}, srtF8 a → srtF8 c → (∀ y, y ∈ a ↔ y ∈ c) → a = c
  | [], [], _, _, _ => rfl
  | [], y :: l, _, _, h => absurd ((h y).2 (.head _)) (by simp)
  | x :: l, [], _, _, h => absurd ((h x).1 (.head _)) (by simp)
  | x :: l, y :: m, ha, hc, h => by
    have h1 := List.pairwise_cons.1 ha
    have h2 := List.pairwise_cons.1 hc
    have hxy : x = y := by
      rcases List.mem_cons.1 ((h x).1 (.head _)) with e | e
      · exact e
      rcases List.mem_cons.1 ((h y).2 (.head _)) with e' | e'
      · exact e'.symm
      exact absurd (befF_trans (h1.1 y e') (h2.1 x e)) befF_irr
    subst hxy
    congr 1
    refine srt_ext h1.2 h2.2 fun z => ⟨fun hz => ?_, fun hz => ?_⟩
    · rcases List.mem_cons.1 ((h z).1 (.tail _ hz)) with e | e
      · subst e; exact absurd (h1.1 z hz) befF_irr
      · exact e
    · rcases List.mem_cons.1 ((h z).2 (.tail _ hz)) with e | e
      · subst e; exact absurd (h2.1 z hz) befF_irr
      · exact e
end Go.PK

namespace Go.PK
open Go Go.RowKit
section
variable {P : Program} {n : Nat} {l : List (Nat × Value)} {own : List (Nat × Obj)} {ro : List Snap} {lops : List Oper} {Q : Exit → Act → World → Prop} {K : Act → World → Prop} {plan : List (Option Bool × Nat)}
theorem x_fix (own' : List (Nat × Obj)) (hs : own'.Sublist own) (h : ∀ w0, Mem w0 own ro → WX P lops.toArray Q K plan n l own' ((w0, notOwn own') :: ro)) : WX P lops.toArray Q K plan n l own ro :=
  fun a w ha hw => h w hw a w ha (hw.fix hs)
end
def exG : List Fl := [⟨⟨#[55, 48, 48]⟩, ⟨#[49, 32]⟩, ⟨#[]⟩, [⟨97, ⟨#[116, 119, 97, 105, 110, 32, 109]⟩⟩]⟩, ⟨⟨#[50, 52, 53]⟩, ⟨#[49, 48]⟩, ⟨#[]⟩, [⟨97, ⟨#[84, 111, 109, 32, 83, 97, 119, 121, 101, 114]⟩⟩]⟩]
def exG2 : List Fl := [⟨⟨#[55, 48, 48]⟩, ⟨#[49, 32]⟩, ⟨#[]⟩, [⟨97, T8b⟩, ⟨48, ⟨#[50]⟩⟩]⟩, ⟨⟨#[50, 52, 53]⟩, ⟨#[49, 48]⟩, ⟨#[]⟩, [⟨97, ⟨#[84, 111, 109, 32, 83, 97, 119, 121, 101, 114]⟩⟩]⟩]
theorem ex_rn : resN8 hs8 (wordsP (titF exG)) 9 2 = some 2 := by kernel_rfl
theorem ex_rew : rewF hs8 exG = exG2 := by
  have h2 := (resolve_of ex_rn).2
  have a1 : rewX hs8 (titF exG) exG[0] = exG2[0] := by
    unfold rewX
    rw [if_pos (by constructor <;> kernel_rfl), show (hdF hs8 exG[0].subs).1 = 2 from by kernel_rfl, h2]
    kernel_rfl
  have a2 : rewX hs8 (titF exG) exG[1] = exG2[1] := by
    unfold rewX
    rw [if_neg (fun h => absurd h.1 (by decide))]
    kernel_rfl
  show [rewX hs8 (titF exG) exG[0], rewX hs8 (titF exG) exG[1]] = [exG2[0], exG2[1]]
  rw [a1, a2]
theorem ex_find' : findF (stF exF).hs ⟨#[67, 76, 69, 77, 69, 78, 83, 44, 32, 83, 97, 109, 117, 101, 108]⟩ = (1, true) := by rw [stF_of ex_st]; exact ex_find
theorem ex_r1' : resolveF (stF exF).hs (wordsP ⟨#[84, 111, 109, 32, 83, 97, 119, 121, 101, 114]⟩) 1 = (2, true) := by rw [stF_of ex_st]; exact (resolve_of ex_r1).1
theorem ex_r2' : resolveF (stF exF).hs (wordsP ⟨#[79, 108, 100, 32, 115, 111, 110, 103, 115]⟩) 1 = (3, true) := by rw [stF_of ex_st]; exact (resolve_of ex_r2).1
end Go.PK

namespace Go.PK
open Go Go.ChangeShapes Go.WideShapes Go.ChangeAt Go.RowKit
structure Meas (H : Type) where
  f : DataW H → Nat
  all : List (DataW H) → Nat
  str : ∀ bs, f (.lit (.string bs)) = bs.length + 1
  slice : ∀ es sp, f (.slice es sp) = all es + all sp + 1
  agg : ∀ ps, f (.agg ps) = all ps + 1
  cons : ∀ d r, all (d :: r) = f d + all r
  one : ∀ d, 1 ≤ f d
structure RdrN {α : Type} (P : Program) (t : TypeId) (T : Ty α) (N : Nat) : Prop where
  size : P.cellsOf t = T.size
  pos : 0 < T.size
  rd : ∀ {H : Type} {enc : TypeId × Value → H} {w : World} {base : Nat} {sp : Nat → Bool} {held : Bool} {fuel : Nat} {cs : List Value} {x : DataW H × List MemPlace} (M : Meas H), M.f x.1 ≤ N → DataW.trod enc P w base sp held fuel t cs = some x → ∃ y, T.rd (fun _ => True) w cs y
theorem Rdr.N {α : Type} {P : Program} {t : TypeId} {T : Ty α} {N : Nat} (R : Rdr P t T) : RdrN P t T N := ⟨R.size, R.pos, fun _ _ h => R.rd h⟩
section
variable {P : Program} {H : Type} {enc : TypeId × Value → H}
end
section
variable {H : Type} {enc : TypeId × Value → H} {P : Program} {W : World} {base b0 : Nat} {sp : Nat → Bool} {held : Bool} {r : Reach} {t e : TypeId} {v : Value} {d : DataW H} {ps : List MemPlace}
theorem sliceRd.each {α : Type} {T : Ty α} {D : Nat → Prop} {v : Value} {xs : List α} {w : World} (h : sliceRd T D w v xs) {Q : α → Prop} (hT : ∀ cs x, T.rd D w cs x → Q x) : ∀ x ∈ xs, Q x := by
  intro x hx
  obtain ⟨A, c, h1, h2, h3, h4⟩ := h
  obtain ⟨b, off, e, hD, hb, hc⟩ := h4 (List.length_pos_of_mem hx)
  obtain ⟨j, hj, rfl⟩ := List.getElem_of_mem hx
  obtain ⟨cs, k1, k2⟩ := hc j hj
  exact hT _ _ k2
end
end Go.PK

namespace Go.PK
open Go Go.ChangeShapes Go.WideShapes Go.ChangeAt Go.RowKit
end Go.PK

namespace Go.PK
open Go Go.RowKit
end Go.PK

namespace Go.PK
open Go Go.RowKit
theorem all_mem {xs : List FD} (hr : ∀ x ∈ xs, rightF x) (ha : apartF xs) (hl : xs.length ≤ 5000) {y : FD} : y ∈ takeAll xs ↔ y ∈ xs := (all_perm xs hr ha hl).mem_iff
end Go.PK

namespace Go.PK
open Go Go.RowKit
theorem nd_len : ∀ (l m : List FD), l.Nodup → (∀ x ∈ l, x ∈ m) → l.length ≤ m.length
  | [], _, _, _ => Nat.zero_le _
  | a :: l, m, hn, hs => by
    have ha := hs a (.head _)
    rw [List.nodup_cons] at hn
    have h1 := nd_len l (m.erase a) hn.2 fun x hx => (List.mem_erase_of_ne (fun e => hn.1 (by rw [← e]; exact hx))).2 (hs x (.tail _ hx))
    rw [List.length_erase_of_mem ha] at h1
    have := List.length_pos_of_mem ha
    rw [List.length_cons]
    omega
theorem srt_nodup {l : List FD} (h : srtF8 l) : l.Nodup := List.Pairwise.imp (fun {a c} hb he => by subst he; exact befF_irr hb) h
structure OrdP (xs : List FD) (S : Nat → Prop) (gs : List FD) : Prop where
  ok : FsOK gs
  mem : ∀ f, f ∈ gs ↔ ∃ n, ∃ h : n < xs.length, S n ∧ f = xs[n]
section
variable {xs gs : List FD} {S S' : Nat → Prop}
theorem OrdP.same (h : OrdP xs S gs) (he : ∀ n, n < xs.length → (S n ↔ S' n)) : OrdP xs S' gs :=
  ⟨h.ok, fun f => by rw [h.mem]; exact ⟨fun ⟨n, h1, h2, h3⟩ => ⟨n, h1, (he n h1).1 h2, h3⟩, fun ⟨n, h1, h2, h3⟩ => ⟨n, h1, (he n h1).2 h2, h3⟩⟩⟩
theorem OrdP.nil (hS : ∀ n, ¬S n) : OrdP xs S [] := ⟨FsOK.nil, fun f => ⟨fun h => (by cases h), fun ⟨n, _, h, _⟩ => absurd h (hS n)⟩⟩
theorem OrdP.len (h : OrdP xs S gs) : gs.length ≤ xs.length := nd_len gs xs (srt_nodup h.ok.srt) fun x hx => by
  obtain ⟨n, h1, _, rfl⟩ := (h.mem x).1 hx
  exact List.getElem_mem h1
theorem apart_at (ha : apartF xs) {i j : Nat} (hi : i < xs.length) (hj : j < xs.length) (h : xs[i].num = xs[j].num ∧ xs[i].ag = xs[j].ag) : i = j := by
  rcases Nat.lt_trichotomy i j with h1 | h1 | h1
  · exact absurd h ((List.pairwise_iff_getElem.1 ha) i j hi hj h1)
  · exact h1
  · exact absurd ⟨h.1.symm, h.2.symm⟩ ((List.pairwise_iff_getElem.1 ha) j i hj hi h1)
theorem OrdP.new (h : OrdP xs S gs) (hr : ∀ x ∈ xs, rightF x) (ha : apartF xs) (hl : xs.length < 5000) {n : Nat} (hn : n < xs.length) (hS : ¬S n) : ∃ gs', takeF gs xs[n] = (0, gs') ∧ OrdP xs (fun m => S m ∨ m = n) gs' := by
  have hno : ∀ y ∈ gs, ¬(y.num = xs[n].num ∧ y.ag = xs[n].ag) := fun y hy he => by
    obtain ⟨m, h1, h2, rfl⟩ := (h.mem y).1 hy
    have := apart_at ha h1 hn he
    exact hS (this ▸ h2)
  have ht := take_new (hr _ (List.getElem_mem hn)) hno (Nat.lt_of_le_of_lt h.len hl)
  refine ⟨_, ht, ?_, fun f => ?_⟩
  · have := h.ok.take xs[n]
    rw [ht] at this
    exact this
  · rw [insF_mem, h.mem]
    constructor
    · rintro (rfl | ⟨m, h1, h2, h3⟩)
      · exact ⟨n, hn, .inr rfl, rfl⟩
      · exact ⟨m, h1, .inl h2, h3⟩
    · rintro ⟨m, h1, h2 | rfl, h3⟩
      · exact .inr ⟨m, h1, h2, h3⟩
      · exact .inl h3
theorem OrdP.all (h : OrdP xs S gs) (hr : ∀ x ∈ xs, rightF x) (ha : apartF xs) (hl : xs.length ≤ 5000) (hS : ∀ n, n < xs.length → S n) : gs = takeAll xs :=
  srt_ext h.ok.srt (takeAll_ok xs).srt fun y => by
    rw [h.mem, all_mem hr ha hl]
    constructor
    · rintro ⟨n, h1, _, rfl⟩; exact List.getElem_mem h1
    · intro hy
      obtain ⟨n, h1, rfl⟩ := List.getElem_of_mem hy
      exact ⟨n, h1, hS n h1, rfl⟩
end
end Go.PK

namespace Go.PK
open Go Go.RowKit
theorem ins_last {l : List FD} {x : FD} (h : ∀ y ∈ l, befF y x) : insF l x = l ++ [x] := by
  rw [insF_at (n := l.length) (Nat.le_refl _) (fun i hi _ => h _ (List.getElem_mem hi)) (fun i hi h2 => absurd hi (by omega)), List.take_length, List.drop_length]
end Go.PK

namespace Go.PK
open Go Go.RowKit
theorem stF_acy8 {fs : List FD} (h : ∀ x ∈ fs, rightF x) : Acy (stF fs).hs := stF_acy h
theorem res_yes {hs : List HG} (ha : Acy hs) {ws : List ByteArray} {h : Int} (hy : (resolveF hs ws h).2 = true) : ∃ g, lkH hs h = some g ∧ resolveF hs ws h = (resF hs ws h, true) ∧ resolveF hs ws (resF hs ws h) = (resF hs ws h, true) := by
  cases hl : lkH hs h with
  | none => unfold resolveF at hy; rw [hl] at hy; cases hy
  | some g =>
    obtain ⟨n, hn⟩ := ha.res ws hl
    refine ⟨g, rfl, by unfold resolveF; rw [hl], ?_⟩
    obtain ⟨g2, h1, _⟩ := hn.last
    unfold resolveF
    rw [h1]
    exact Prod.ext (res_again hn) rfl
structure CirP (F : List FD) (gs : List FD) (b n : Nat) (r : Nat) : Prop where
  hs : (stF gs).hs = (stF F).hs
  ref : (stF gs).ref.length = r
  num : ∀ f ∈ gs, f.num < (b : Int)
  len : gs.length ≤ n
  rt : ∀ f ∈ gs, rightF f
theorem CirP.more {F gs : List FD} {b n r b' n' : Nat} (h : CirP F gs b n r) (hb : b ≤ b') (hn : n ≤ n') : CirP F gs b' n' r := ⟨h.hs, h.ref, fun f hf => by have := h.num f hf; omega, by have := h.len; omega, h.rt⟩
theorem CirP.step {F gs : List FD} {b n r : Nat} (hP : CirP F gs b n r) (hn : n < 5000) (hb : 1 ≤ b) {ws : List ByteArray} {h : Int} (hy : (resolveF (stF gs).hs ws h).2 = true) {x : FD} (hx : x = ⟨9, (b : Nat), 4, (resolveF (stF gs).hs ws h).1, h, ⟨#[]⟩⟩) : takeF gs x = (0, gs ++ [x]) ∧ CirP F (gs ++ [x]) (b + 1) (n + 1) (r + 1) := by
  have ha := stF_acy8 hP.rt
  obtain ⟨g, hl, h1, h2⟩ := res_yes ha hy
  rw [h1] at hx
  obtain ⟨k, hk⟩ := ha.res ws hl
  obtain ⟨g2, hl2, hst⟩ := hk.last
  obtain ⟨m1, m2⟩ := lkH_mem hl
  obtain ⟨m3, m4⟩ := lkH_mem hl2
  have p1 := ha.pos g m1
  have p2 := ha.pos g2 m3
  have hr : rightF x := by
    rw [hx]
    refine ⟨by show (1 : Int) ≤ 9; decide, by show (1 : Int) ≤ (b : Nat); omega, by show 1 ≤ resF _ _ _; rw [← m4]; exact p2.1, .inr (.inl ⟨rfl, by show 1 ≤ h; rw [← m2]; exact p1.1⟩)⟩
  have hbf : ∀ y ∈ gs, befF y x := fun y hy => .inl (by rw [hx]; exact hP.num y hy)
  have hno : ∀ y ∈ gs, ¬(y.num = x.num ∧ y.ag = x.ag) := fun y hy he => by have := hbf y hy; unfold befF at this; omega
  have ht : takeF gs x = (0, gs ++ [x]) := by rw [take_new hr hno (by have := hP.len; omega), ins_last hbf]
  have hacc : accS (stF gs).hs x = none := by
    by_cases hi : g2.into = 0
    · exact acc_may (by rw [hx]; show (4 : Int) ≤ 4; decide) (.inr (by rw [hx]; exact rchB_iff.2 hk.reach))
    · exact acc_dead (by rw [hx]; show (4 : Int) ≠ 1; decide) (fun g' hg' => by
        rw [hx] at hg'
        rw [hl2] at hg'
        injection hg' with hg'
        rw [← hg']; exact hi)
  have hap : stF (gs ++ [x]) = ⟨(stF gs).hs, (stF gs).ref ++ [x]⟩ := by
    rw [stF_snoc]
    unfold applyS
    rw [hacc]
  refine ⟨ht, by rw [hap]; exact hP.hs, by rw [hap, List.length_append, hP.ref]; rfl, fun f hf => ?_, by rw [List.length_append]; have := hP.len; show _ + 1 ≤ _; omega, fun f hf => ?_⟩
  · rcases List.mem_append.1 hf with hf | hf
    · have := hP.num f hf; omega
    · rw [List.mem_singleton.1 hf, hx]; show ((b : Nat) : Int) < ((b + 1 : Nat) : Int); omega
  · rcases List.mem_append.1 hf with hf | hf
    · exact hP.rt f hf
    · rw [List.mem_singleton.1 hf]; exact hr
end Go.PK

namespace Go.PK
open Go Go.RowKit
def namesR : List ByteArray := [⟨#[84, 119, 97, 105, 110, 44, 32, 77, 97, 114, 107, 46]⟩, ⟨#[67, 76, 69, 77, 69, 78, 83]⟩, ⟨#[69, 118, 97, 110, 115]⟩, ⟨#[110, 111, 98, 111, 100, 121]⟩, ⟨#[83, 111, 110, 103, 115]⟩, ⟨#[122, 111, 108, 97]⟩, ⟨#[101, 108, 105, 111, 116, 32, 103, 101, 111, 114, 103, 101]⟩, ⟨#[]⟩]
end Go.PK

namespace Go.PK
open Go Go.RowKit
section
variable {P : Program} {n : Nat} {l : List (Nat × Value)} {own : List (Nat × Obj)} {ro : List Snap} {lops : List Oper} {Q : Exit → Act → World → Prop} {K : Act → World → Prop}
  {rest : List (Option Bool × Nat)} {k : Option Bool} {i d : Nat} {ty t : TypeId} {pos : String} {af : Array Edge}
end
end Go.PK

namespace Go.PK
open Go Go.RowKit
end Go.PK

namespace Go.PK
open Go Go.RowKit
section
variable {P : Program} {n : Nat} {l : List (Nat × Value)} {own oF : List (Nat × Obj)} {ro rF : List Snap} {lops : List Oper} {Q : Exit → Act → World → Prop} {K : Act → World → Prop} {i d : Nat} {t e : Pl} {op : Op} {ty : TypeId} {pos : String} {af : Array Edge}
end
end Go.PK

namespace Go.PK
open Go Go.RowKit
section
variable {P : Program} {n : Nat} {l : List (Nat × Value)} {own oF : List (Nat × Obj)} {ro rF : List Snap} {lops : List Oper} {Q : Exit → Act → World → Prop} {K : Act → World → Prop} {rest : List (Option Bool × Nat)} {i d j dj : Nat} {want : Bool} {t e : Pl} {op : Op} {ty : TypeId} {pos : String} {af : Array Edge}
end
end Go.PK

namespace Go.PK
open Go Go.RowKit
end Go.PK

namespace Go.PK
open Go Go.RowKit
def W6 : List ByteArray := [⟨#[115, 111, 110, 103, 115]⟩, ⟨#[77, 117, 115, 105, 99]⟩, ⟨#[112, 111, 101, 109, 115]⟩, ⟨#[76, 69, 84, 84, 69, 82, 83]⟩, ⟨#[195, 169]⟩, ⟨#[119, 97, 114]⟩]
theorem W6_one : (W6.all fun w => decide ((wordsP w).length = 1)) = true := by kernel_rfl
theorem W6_word {w : ByteArray} (h : w ∈ W6) : (wordsP w).length = 1 := of_decide_eq_true (List.all_eq_true.1 W6_one w h)
theorem W6_sz {w : ByteArray} (h : w ∈ W6) : w.size ≤ 7 := (by decide : ∀ w ∈ W6, w.size ≤ 7) w h
def spX0 : FD := ⟨1, 1, 1, 1, 0, ⟨#[97, 108, 108]⟩⟩
def spN (k : Nat) (w : ByteArray) : FD := ⟨1, 10 + 2 * (k : Int), 1, 2 + (k : Int), 0, w⟩
def spS (k : Nat) (w : ByteArray) : FD := ⟨1, 11 + 2 * (k : Int), 5, 1, 2 + (k : Int), w⟩
def spF (ws : List ByteArray) : List FD := spX0 :: (ws.mapIdx fun k w => [spN k w, spS k w]).flatten
theorem spF_snoc (ws : List ByteArray) (w : ByteArray) : spF (ws ++ [w]) = spF ws ++ [spN ws.length w, spS ws.length w] := by
  unfold spF
  rw [List.mapIdx_concat, List.flatten_append]
  rfl
theorem spF_mem {ws : List ByteArray} {y : FD} (h : y ∈ spF ws) : y.ag = 1 ∧ y.num < 10 + 2 * (ws.length : Int) := by
  rcases List.mem_cons.1 h with rfl | h
  · exact ⟨rfl, by show (1 : Int) < _; omega⟩
  · obtain ⟨l, hl, hy⟩ := List.mem_flatten.1 h
    obtain ⟨k, hk, rfl⟩ := List.getElem_of_mem hl
    rw [List.length_mapIdx] at hk
    rw [List.getElem_mapIdx] at hy
    rcases List.mem_cons.1 hy with rfl | hy
    · exact ⟨rfl, by show 10 + 2 * (k : Int) < _; omega⟩
    · rw [List.mem_singleton.1 hy]
      exact ⟨rfl, by show 11 + 2 * (k : Int) < _; omega⟩
theorem spF_len (ws : List ByteArray) : (spF ws).length = 1 + 2 * ws.length := by
  refine snocRec (motive := fun ws => (spF ws).length = 1 + 2 * ws.length) rfl (fun l a ih => ?_) ws
  rw [spF_snoc, List.length_append, ih, List.length_append]
  simp
  omega
theorem sp_first : takeF [] spX0 = (0, spF []) := by
  rw [take_new ⟨by decide, by decide, by decide, .inl ⟨.inl rfl, ?_⟩⟩ (fun y hy => by cases hy) (by decide)]
  · rfl
  · rw [show wordsP spX0.txt = [⟨#[97, 108, 108]⟩] from by kernel_rfl]
    exact fun h => by cases h
theorem sp_step1 {ws : List ByteArray} {w : ByteArray} (hw : w ∈ W6) (hl : ws.length ≤ 6) : takeF (spF ws) (spN ws.length w) = (0, spF ws ++ [spN ws.length w]) := by
  have hb : ∀ y ∈ spF ws, befF y (spN ws.length w) := fun y hy => .inl (spF_mem hy).2
  have h1 := W6_word hw
  rw [take_new ⟨by show (1 : Int) ≤ 1; decide, by show (1 : Int) ≤ 10 + 2 * _; omega, by show (1 : Int) ≤ 2 + _; omega, .inl ⟨.inl rfl, fun h => by rw [show (spN ws.length w).txt = w from rfl] at h; rw [h] at h1; cases h1⟩⟩ (fun y hy he => by have := hb y hy; unfold befF at this; omega) (by rw [spF_len]; omega), ins_last hb]
theorem sp_step2 {ws : List ByteArray} {w : ByteArray} (hw : w ∈ W6) (hl : ws.length ≤ 6) : takeF (spF ws ++ [spN ws.length w]) (spS ws.length w) = (0, spF (ws ++ [w])) := by
  have hb : ∀ y ∈ spF ws ++ [spN ws.length w], befF y (spS ws.length w) := fun y hy => by
    rcases List.mem_append.1 hy with hy | hy
    · have := (spF_mem hy).2
      exact .inl (show y.num < 11 + 2 * (ws.length : Int) by omega)
    · rw [List.mem_singleton.1 hy]
      exact .inl (show 10 + 2 * (ws.length : Int) < 11 + 2 * (ws.length : Int) by omega)
  have h1 := W6_word hw
  rw [take_new ⟨by show (1 : Int) ≤ 1; decide, by show (1 : Int) ≤ 11 + 2 * _; omega, by show (1 : Int) ≤ 1; decide, .inr (.inr ⟨rfl, by show (1 : Int) ≤ 2 + _; omega, h1⟩)⟩ (fun y hy he => by have := hb y hy; unfold befF at this; omega) (by rw [List.length_append, spF_len]; simp; omega), ins_last hb, spF_snoc, List.append_assoc]
  rfl
def spP (ws : List ByteArray) : List (ByteArray × Int) := ws.mapIdx fun k w => (foldS w, 2 + (k : Int))
def spG (ws : List ByteArray) : List HG := ws.mapIdx fun k w => ⟨2 + (k : Int), w, [], [], 0⟩
def spT (ws : List ByteArray) : HG := ⟨1, ⟨#[97, 108, 108]⟩, [], spP ws, 0⟩
def spH (ws : List ByteArray) : List HG := spT ws :: spG ws
theorem spP_snoc (ws : List ByteArray) (w : ByteArray) : spP (ws ++ [w]) = spP ws ++ [(foldS w, 2 + (ws.length : Int))] := List.mapIdx_concat
theorem spG_snoc (ws : List ByteArray) (w : ByteArray) : spG (ws ++ [w]) = spG ws ++ [⟨2 + (ws.length : Int), w, [], [], 0⟩] := List.mapIdx_concat
theorem spG_mem {ws : List ByteArray} {g : HG} (h : g ∈ spG ws) : 2 ≤ g.id ∧ g.id < 2 + (ws.length : Int) ∧ g.into = 0 ∧ g.spl = [] := by
  obtain ⟨k, hk, rfl⟩ := List.getElem_of_mem h
  unfold spG at hk ⊢
  rw [List.length_mapIdx] at hk
  rw [List.getElem_mapIdx]
  exact ⟨by show (2 : Int) ≤ 2 + _; omega, by show 2 + (k : Int) < _; omega, rfl, rfl⟩
theorem spH_none {ws : List ByteArray} : lkH (spH ws) (2 + (ws.length : Int)) = none := lkH_none.2 fun h hh => by
  rcases List.mem_cons.1 hh with rfl | hh
  · show (1 : Int) ≠ _; omega
  · have := spG_mem hh; omega
theorem spH_st (ws : List ByteArray) : stF (spF ws) = ⟨spH ws, []⟩ := by
  refine snocRec (motive := fun ws => stF (spF ws) = ⟨spH ws, []⟩) ?_ (fun l w ih => ?_) ws
  · exact stF_of (n := 1) (by kernel_rfl)
  · have e : spF (l ++ [w]) = (spF l ++ [spN l.length w]) ++ [spS l.length w] := by rw [spF_snoc, List.append_assoc]; rfl
    have hg : lkH (spH l ++ [⟨2 + (l.length : Int), w, [], [], 0⟩]) (2 + (l.length : Int)) = some ⟨2 + (l.length : Int), w, [], [], 0⟩ := by
      rw [lkH_snoc, spH_none]
      dsimp only
      rw [if_pos rfl]
    rw [e, stF_snoc, stF_snoc, ih]
    have e1 : applyS ⟨spH l, []⟩ (spN l.length w) = ⟨spH l ++ [⟨2 + (l.length : Int), w, [], [], 0⟩], []⟩ := by
      unfold applyS accS
      rw [show lkH (spH l) (spN l.length w).hd = none from spH_none]
      dsimp only
      rw [if_pos (show (spN l.length w).kind = 1 from rfl)]
      rfl
    have hno : ¬RchH (spH l ++ [⟨2 + (l.length : Int), w, [], [], 0⟩]) 1 (2 + (l.length : Int)) := fun h => by
      rcases RchH.iff.1 h with h | ⟨g, h1, c, h2, _⟩
      · omega
      · rw [hg] at h1
        injection h1 with h1
        rw [← h1] at h2
        cases h2
    rw [e1]
    unfold applyS accS
    have hl1 : lkH (spH l ++ [⟨2 + (l.length : Int), w, [], [], 0⟩]) (spS l.length w).hd = some (spT l) := by
      show lkH (spT l :: (spG l ++ _)) 1 = _
      rw [lkH_cons, if_pos (show (spT l).id = 1 from rfl)]
    rw [hl1]
    dsimp only
    rw [if_neg (by show ¬(5 : Int) = 1; decide), if_neg (by show ¬((0 : Int) ≠ 0); decide), if_neg (by show ¬(5 : Int) = 2; decide), if_neg (by show ¬(5 : Int) = 3; decide), if_neg (by rw [show (spS l.length w).to = 2 + (l.length : Int) from rfl, hg]; exact fun h => by cases h), if_neg (show ¬RchH (spH l ++ [⟨2 + (l.length : Int), w, [], [], 0⟩]) (spS l.length w).hd (spS l.length w).to from hno), if_neg (by show ¬(5 : Int) = 4; decide)]
    dsimp only
    unfold spH
    rw [spG_snoc]
    show SG8.mk (setH (spT l :: (spG l ++ _)) _) [] = _
    unfold setH
    rw [if_pos rfl]
    unfold spT
    rw [spP_snoc]
    rfl
def wantF (W : List ByteArray) (ws : List ByteArray) : Int := match (spP ws).find? (fun p => amg W p.1) with | some p => p.2 | none => 1
theorem spP_ge {ws : List ByteArray} : ∀ p ∈ spP ws, 2 ≤ p.2 ∧ p.2 < 2 + (ws.length : Int) := fun p hp => by
  obtain ⟨k, hk, rfl⟩ := List.getElem_of_mem hp
  unfold spP at hk ⊢
  rw [List.length_mapIdx] at hk
  rw [List.getElem_mapIdx]
  exact ⟨by show (2 : Int) ≤ 2 + _; omega, by show 2 + (k : Int) < _; omega⟩
theorem want_snoc (W ws : List ByteArray) (w : ByteArray) : wantF W (ws ++ [w]) = if wantF W ws = 1 ∧ amg W (foldS w) = true then 2 + (ws.length : Int) else wantF W ws := by
  unfold wantF
  rw [spP_snoc, List.find?_append]
  cases h : (spP ws).find? (fun p => amg W p.1) with
  | some p =>
    have := spP_ge p (List.mem_of_find?_eq_some h)
    show p.2 = if p.2 = 1 ∧ _ then _ else p.2
    rw [if_neg (fun h => by omega)]
  | none =>
    by_cases ha : amg W (foldS w) = true
    · rw [if_pos ⟨rfl, ha⟩, List.find?_cons_of_pos (p := fun p : ByteArray × Int => amg W p.1) ha]; rfl
    · rw [if_neg (fun h => ha h.2), List.find?_cons_of_neg (p := fun p : ByteArray × Int => amg W p.1) ha]; rfl
theorem want_res (W ws : List ByteArray) : resolveF (spH ws) W 1 = (wantF W ws, true) := by
  have h1 : lkH (spH ws) 1 = some (spT ws) := by unfold spH; rw [lkH_cons, if_pos (show (spT ws).id = 1 from rfl)]
  have hs : stepR W (spT ws) = match (spP ws).find? (fun p => amg W p.1) with | some p => p.2 | none => 0 := by
    unfold stepR splF
    rw [if_neg (by show ¬(0 : Int) > 0; decide)]
    rfl
  have key : ∃ n, EndsN (spH ws) W n 1 (wantF W ws) := by
    unfold wantF
    cases h : (spP ws).find? (fun p => amg W p.1) with
    | none => exact ⟨0, .stop h1 (by rw [hs, h])⟩
    | some p =>
      have hm := List.mem_of_find?_eq_some h
      have hp := spP_ge p hm
      obtain ⟨k, hk, hpk⟩ := List.getElem_of_mem hm
      unfold spP at hk hpk
      rw [List.length_mapIdx] at hk
      rw [List.getElem_mapIdx] at hpk
      have hg : ∃ g, lkH (spH ws) p.2 = some g ∧ stepR W g = 0 := by
        cases hl : lkH (spH ws) p.2 with
        | none =>
          have hgm : (⟨2 + (k : Int), ws[k], [], [], 0⟩ : HG) ∈ spG ws := by
            unfold spG
            exact List.mem_mapIdx.2 ⟨k, hk, rfl⟩
          exact absurd (by rw [← hpk]) (lkH_none.1 hl _ (.tail _ hgm))
        | some g =>
          obtain ⟨m1, m2⟩ := lkH_mem hl
          refine ⟨g, rfl, ?_⟩
          rcases List.mem_cons.1 m1 with rfl | m1
          · have : (1 : Int) = p.2 := m2
            omega
          · obtain ⟨_, _, g3, g4⟩ := spG_mem m1
            unfold stepR splF
            rw [g3, g4, if_neg (by decide)]
            rfl
      obtain ⟨g, hg1, hg2⟩ := hg
      have e : stepR W (spT ws) = p.2 := by rw [hs, h]
      exact ⟨1, .go h1 (by rw [e]; omega) (by rw [e]; exact .stop hg1 hg2)⟩
  obtain ⟨n, hn⟩ := key
  unfold resolveF
  rw [h1]
  show (resF _ _ _, true) = _
  rw [hn.res]
def wantJ (W ws : List ByteArray) (w : ByteArray) (j : Nat) : Int := if wantF W ws = 1 ∧ amg (W.take j) (foldS w) = true then 2 + (ws.length : Int) else wantF W ws
theorem wantJ_zero (W ws : List ByteArray) (w : ByteArray) : wantJ W ws w 0 = wantF W ws := by
  unfold wantJ
  rw [if_neg (fun h => by have h2 := h.2; rw [List.take_zero] at h2; cases h2)]
theorem amg_snoc8 (W : List ByteArray) (t f : ByteArray) : amg (W ++ [t]) f = (amg W f || decide (t = f)) := by unfold amg; rw [List.any_append]; simp
theorem wantJ_succ {W ws : List ByteArray} {w : ByteArray} {j : Nat} (hj : j < W.length) (h1 : wantJ W ws w j = 1) : wantJ W ws w (j + 1) = if W[j] = foldS w then 2 + (ws.length : Int) else wantJ W ws w j := by
  have hw : wantF W ws = 1 ∧ ¬amg (W.take j) (foldS w) = true := by
    unfold wantJ at h1
    by_cases h : wantF W ws = 1 ∧ amg (W.take j) (foldS w) = true
    · rw [if_pos h] at h1; omega
    · rw [if_neg h] at h1; exact ⟨h1, fun h2 => h ⟨h1, h2⟩⟩
  have hf : amg (W.take j) (foldS w) = false := by simpa using hw.2
  rw [h1]
  unfold wantJ
  have e : amg (W.take (j + 1)) (foldS w) = decide (W[j] = foldS w) := by rw [List.take_succ_eq_append_getElem hj, amg_snoc8, hf, Bool.false_or]
  by_cases h : W[j] = foldS w
  · rw [if_pos ⟨hw.1, by rw [e]; exact decide_eq_true h⟩, if_pos h]
  · rw [if_neg (fun h2 => h (by have h3 := h2.2; rw [e] at h3; exact of_decide_eq_true h3)), if_neg h, hw.1]
theorem amg_take {W : List ByteArray} {j : Nat} {f : ByteArray} (h : amg (W.take j) f = true) : amg W f = true := by
  unfold amg at *
  obtain ⟨x, hx, h2⟩ := List.any_eq_true.1 h
  exact List.any_eq_true.2 ⟨x, List.mem_of_mem_take hx, h2⟩
theorem wantJ_end {W ws : List ByteArray} {w : ByteArray} {j : Nat} (h : ¬(j < W.length ∧ wantJ W ws w j = 1)) : wantJ W ws w j = wantF W (ws ++ [w]) := by
  rw [want_snoc]
  by_cases h1 : wantJ W ws w j = 1
  · have hj : W.length ≤ j := Nat.le_of_not_lt fun h2 => h ⟨h2, h1⟩
    unfold wantJ
    rw [List.take_of_length_le hj]
  · unfold wantJ at h1 ⊢
    by_cases h2 : wantF W ws = 1 ∧ amg (W.take j) (foldS w) = true
    · rw [if_pos h2, if_pos ⟨h2.1, amg_take h2.2⟩]
    · rw [if_neg h2] at h1 ⊢
      rw [if_neg (fun h3 => h1 h3.1)]
def wq (m : Nat) : ByteArray := W6.getD (m % 6) ⟨#[]⟩
def X2 : List ByteArray := [⟨#[]⟩, ⟨#[120]⟩]
def xq (m : Nat) : ByteArray := X2.getD (m / 6 % 2) ⟨#[]⟩
theorem getD_mem {l : List ByteArray} {n : Nat} (h : n < l.length) : l.getD n ⟨#[]⟩ ∈ l := by
  rw [List.getD_eq_getElem?_getD, List.getElem?_eq_getElem h]
  exact List.getElem_mem h
theorem getD_val {l : List ByteArray} {n : Nat} (h : n < l.length) : (l.map Value.string)[0 + n * 1]? = some (Value.string (l.getD n ⟨#[]⟩)) := by
  rw [Nat.zero_add, Nat.mul_one, List.getElem?_map, List.getD_eq_getElem?_getD, List.getElem?_eq_getElem h]
  rfl
theorem wq_mem (m : Nat) : wq m ∈ W6 := getD_mem (Nat.mod_lt m (by decide))
theorem wq_sz (m : Nat) : (wq m).size ≤ 7 := W6_sz (wq_mem m)
theorem wq_at (m : Nat) : (W6.map Value.string)[0 + m % 6 * 1]? = some (Value.string (wq m)) := getD_val (Nat.mod_lt m (by decide))
theorem xq_sz (m : Nat) : (xq m).size ≤ 1 := (by decide : ∀ t ∈ X2, t.size ≤ 1) _ (getD_mem (Nat.mod_lt (m / 6) (by decide)))
theorem xq_at (m : Nat) : (X2.map Value.string)[0 + m / 6 % 2 * 1]? = some (Value.string (xq m)) := getD_val (Nat.mod_lt (m / 6) (by decide))
theorem tmod6 {a : Int} (h : 0 ≤ a) : a.tmod 6 = ((a.toNat % 6 : Nat) : Int) := by
  rw [Int.tmod_eq_emod_of_nonneg h]; omega
theorem tdiv6 {a : Int} (h : 0 ≤ a) : a.tdiv 6 = ((a.toNat / 6 : Nat) : Int) := by
  rw [Int.tdiv_eq_ediv_of_nonneg h]; omega
def wsL (l : List Int) : List ByteArray := l.map fun q => wq q.toNat
theorem wsL_len (l : List Int) : (wsL l).length = l.length := List.length_map _
theorem wsL_succ {l : List Int} {k : Nat} (h : k < l.length) : wsL (l.take (k + 1)) = wsL (l.take k) ++ [wq l[k].toNat] := by
  unfold wsL
  rw [List.take_succ_eq_append_getElem h, List.map_append]; rfl
end Go.PK

namespace Go.PK
open Go Go.RowKit
end Go.PK

namespace Go.PK
open Go Go.RowKit
theorem all_step {X : List FD} (hr : ∀ x ∈ X, rightF x) (ha : apartF X) (hl : X.length ≤ 5000) {k : Nat} (hk : k < X.length) : takeF (takeAll (X.take k)) X[k] = (0, takeAll (X.take (k + 1))) := by
  have e : X.take (k + 1) = X.take k ++ [X[k]] := List.take_succ_eq_append_getElem hk
  have hp := all_perm (X.take k) (fun x hx => hr x (List.mem_of_mem_take hx)) (ha.sublist (List.take_sublist k X)) (by rw [List.length_take]; omega)
  have ha2 : apartF (X.take k ++ [X[k]]) := by rw [← e]; exact ha.sublist (List.take_sublist _ X)
  have h9 : takeF (takeAll (X.take k)) X[k] = (0, insF (takeAll (X.take k)) X[k]) := take_new (hr _ (List.getElem_mem hk)) (fun y hy => (List.pairwise_append.1 ha2).2.2 y (hp.mem_iff.1 hy) _ (by simp)) (by rw [hp.length_eq, List.length_take]; omega)
  rw [e, takeAll_snoc, h9]
def nmB (k : Nat) : ByteArray := ⟨#[110, 97, 109, 101, 32]⟩ ++ itoaS (k : Int)
def nwB (k : Nat) : ByteArray := ⟨#[110, 101, 119, 32, 110, 97, 109, 101, 32]⟩ ++ itoaS (k : Int)
def upB (k : Nat) : ByteArray := ⟨#[78, 65, 77, 69, 32]⟩ ++ itoaS (k : Int)
theorem lin_chk : ((List.range 30).all fun i => decide (foldS (nmB (i + 1)) = nmB (i + 1)) && (decide (foldS (nwB (i + 1)) = nwB (i + 1)) && decide (foldS (upB (i + 1)) = nmB (i + 1)))) = true := by kernel_rfl
theorem lin_fold {k : Nat} (h1 : 1 ≤ k) (h : k ≤ 30) : foldS (nmB k) = nmB k ∧ foldS (nwB k) = nwB k ∧ foldS (upB k) = nmB k := by
  have h2 := List.all_eq_true.1 lin_chk (k - 1) (List.mem_range.2 (by omega))
  rw [show k - 1 + 1 = k by omega, Bool.and_eq_true, Bool.and_eq_true] at h2
  exact ⟨of_decide_eq_true h2.1, of_decide_eq_true h2.2.1, of_decide_eq_true h2.2.2⟩
theorem words_ne8 {s t : ByteArray} (h : foldS s = t) (h0 : t.size ≠ 0) : wordsP s ≠ [] := fun h1 => by
  unfold foldS at h
  rw [h1] at h
  rw [← h] at h0
  exact h0 rfl
theorem nm_ne {k : Nat} : (nmB k).size ≠ 0 := by unfold nmB; rw [ByteArray.size_append, show (⟨#[110, 97, 109, 101, 32]⟩ : ByteArray).size = 5 from rfl]; omega
theorem nw_ne {k : Nat} : (nwB k).size ≠ 0 := by unfold nwB; rw [ByteArray.size_append, show (⟨#[110, 101, 119, 32, 110, 97, 109, 101, 32]⟩ : ByteArray).size = 9 from rfl]; omega
theorem itoa_inj {j k : Nat} (hj : j ≤ 30) (hk : k ≤ 30) (h : itoaS (j : Int) = itoaS (k : Int)) : j = k := by
  have h1 := atoi_itoa8 (n := (j : Int)) (by omega) (by omega)
  have h2 := atoi_itoa8 (n := (k : Int)) (by omega) (by omega)
  rw [h, h2] at h1
  injection h1 with h1
  omega
theorem nm_inj {j k : Nat} (hj : j ≤ 30) (hk : k ≤ 30) (h : nmB j = nmB k) : j = k := by
  have h1 := congrArg bl h
  unfold nmB at h1
  rw [bl_app, bl_app] at h1
  exact itoa_inj hj hk (bl_inj (List.append_cancel_left h1))
theorem nw_nm {j k : Nat} (h : nwB j = nmB k) : False := by
  have h1 := congrArg bl h
  unfold nmB nwB at h1
  rw [bl_app, bl_app] at h1
  have h2 : (110 : UInt8) :: 101 :: ([119, 32, 110, 97, 109, 101, 32] ++ bl (itoaS (j : Int))) = 110 :: 97 :: ([109, 101, 32] ++ bl (itoaS (k : Int))) := h1
  injection h2 with _ h2
  injection h2 with h2 _
  exact absurd h2 (by decide)
section
variable (q : Nat → Nat) (n : Nat)
def nmq (k : Nat) : Bool := decide (q k % 2 = 0)
def mrq (k : Nat) : Bool := decide (0 < q k % 3 ∧ k < n)
def inV (k : Nat) : Nat := if mrq q n k = true then min (k + 1 + q k / 6 % 5) n else 0
def fN8 (k : Nat) : FD := ⟨2, (k : Int), 1, (k : Int), 0, nmB k⟩
def fR8 (k : Nat) : FD := ⟨1, 100 + (k : Int), 2, (k : Int), 0, nwB k⟩
def fM8 (k : Nat) : FD := ⟨1, 200 + (k : Int), 4, (k : Int), ((inV q n k : Nat) : Int), ⟨#[]⟩⟩
def one8 (b : Bool) (x : FD) : List FD := if b = true then [x] else []
def nwsL8 : Nat → List FD
  | 0 => []
  | k + 1 => nwsL8 k ++ [fN8 (k + 1)]
def rnL8 : Nat → List FD
  | 0 => []
  | k + 1 => rnL8 k ++ one8 (nmq q (k + 1)) (fR8 (k + 1))
def mgL8 : Nat → List FD
  | 0 => []
  | k + 1 => mgL8 k ++ one8 (mrq q n (k + 1)) (fM8 q n (k + 1))
def mxL8 : Nat → List FD
  | 0 => []
  | k + 1 => (mxL8 k ++ one8 (nmq q (k + 1)) (fR8 (k + 1))) ++ one8 (mrq q n (k + 1)) (fM8 q n (k + 1))
def linX : List FD := nwsL8 n ++ mxL8 q n n
def linP : List FD := nwsL8 n ++ rnL8 q n ++ mgL8 q n n
end
variable {q : Nat → Nat} {n : Nat}
theorem inV_yes {k : Nat} (h : mrq q n k = true) : k < inV q n k ∧ inV q n k ≤ n := by
  unfold inV
  rw [if_pos h]
  have := of_decide_eq_true h
  omega
theorem inV_no {k : Nat} (h : ¬mrq q n k = true) : inV q n k = 0 := if_neg h
theorem inV_pos {k : Nat} (h : 0 < inV q n k) : k < inV q n k ∧ inV q n k ≤ n := by
  by_cases h1 : mrq q n k = true
  · exact inV_yes h1
  · rw [inV_no h1] at h; omega
theorem one_mem {b : Bool} {x y : FD} (h : y ∈ one8 b x) : b = true ∧ y = x := by
  unfold one8 at h
  split at h
  · rename_i h1; exact ⟨h1, List.mem_singleton.1 h⟩
  · cases h
theorem nws_mem : ∀ {k : Nat} {y : FD}, y ∈ nwsL8 k → ∃ i, 1 ≤ i ∧ i ≤ k ∧ y = fN8 i
  | 0, y, h => by cases h
  | k + 1, y, h => by
    rcases List.mem_append.1 h with h | h
    · obtain ⟨i, h1, h2, h3⟩ := nws_mem h; exact ⟨i, h1, by omega, h3⟩
    · exact ⟨k + 1, by omega, Nat.le_refl _, List.mem_singleton.1 h⟩
theorem rn_mem : ∀ {k : Nat} {y : FD}, y ∈ rnL8 q k → ∃ i, 1 ≤ i ∧ i ≤ k ∧ y = fR8 i
  | 0, y, h => by cases h
  | k + 1, y, h => by
    rcases List.mem_append.1 h with h | h
    · obtain ⟨i, h1, h2, h3⟩ := rn_mem h; exact ⟨i, h1, by omega, h3⟩
    · exact ⟨k + 1, by omega, Nat.le_refl _, (one_mem h).2⟩
theorem mg_mem : ∀ {k : Nat} {y : FD}, y ∈ mgL8 q n k → ∃ i, 1 ≤ i ∧ i ≤ k ∧ mrq q n i = true ∧ y = fM8 q n i
  | 0, y, h => by cases h
  | k + 1, y, h => by
    rcases List.mem_append.1 h with h | h
    · obtain ⟨i, h1, h2, h3⟩ := mg_mem h; exact ⟨i, h1, by omega, h3⟩
    · exact ⟨k + 1, by omega, Nat.le_refl _, one_mem h⟩
theorem mx_perm : ∀ k : Nat, (mxL8 q n k).Perm (rnL8 q k ++ mgL8 q n k)
  | 0 => List.Perm.refl _
  | k + 1 => by
    have h := mx_perm k
    show (((mxL8 q n k) ++ one8 (nmq q (k + 1)) (fR8 (k + 1))) ++ one8 (mrq q n (k + 1)) (fM8 q n (k + 1))).Perm ((rnL8 q k ++ one8 (nmq q (k + 1)) (fR8 (k + 1))) ++ (mgL8 q n k ++ one8 (mrq q n (k + 1)) (fM8 q n (k + 1))))
    generalize one8 (nmq q (k + 1)) (fR8 (k + 1)) = A
    generalize one8 (mrq q n (k + 1)) (fM8 q n (k + 1)) = B
    have h2 : ((rnL8 q k ++ mgL8 q n k) ++ A).Perm ((rnL8 q k ++ A) ++ mgL8 q n k) := by
      rw [List.append_assoc, List.append_assoc]
      exact List.Perm.append_left _ List.perm_append_comm
    have h3 := ((h.append_right A).trans h2).append_right B
    rw [List.append_assoc (rnL8 q k ++ A)] at h3
    exact h3
theorem lin_perm : (linX q n).Perm (linP q n) := by
  unfold linX linP
  rw [List.append_assoc]
  exact List.Perm.append_left _ (mx_perm n)
theorem lin_right (hn : n ≤ 30) : ∀ y ∈ linP q n, rightF y := fun y hy => by
  rcases List.mem_append.1 hy with hy | hy
  · rcases List.mem_append.1 hy with hy | hy
    · obtain ⟨i, h1, h2, rfl⟩ := nws_mem hy
      exact ⟨by show (1 : Int) ≤ 2; decide, by show (1 : Int) ≤ (i : Int); omega, by show (1 : Int) ≤ (i : Int); omega, .inl ⟨.inl rfl, words_ne8 (lin_fold h1 (by omega)).1 nm_ne⟩⟩
    · obtain ⟨i, h1, h2, rfl⟩ := rn_mem hy
      exact ⟨by show (1 : Int) ≤ 1; decide, by show (1 : Int) ≤ 100 + (i : Int); omega, by show (1 : Int) ≤ (i : Int); omega, .inl ⟨.inr (.inl rfl), words_ne8 (lin_fold h1 (by omega)).2.1 nw_ne⟩⟩
  · obtain ⟨i, h1, h2, h3, rfl⟩ := mg_mem hy
    have := inV_yes h3
    exact ⟨by show (1 : Int) ≤ 1; decide, by show (1 : Int) ≤ 200 + (i : Int); omega, by show (1 : Int) ≤ (i : Int); omega, .inr (.inl ⟨rfl, by show (1 : Int) ≤ ((inV q n i : Nat) : Int); omega⟩)⟩
theorem one_pw (b : Bool) (x : FD) : (one8 b x).Pairwise befF := by unfold one8; split <;> simp
theorem nws_srt : ∀ k : Nat, (nwsL8 k).Pairwise befF
  | 0 => .nil
  | k + 1 => List.pairwise_append.2 ⟨nws_srt k, List.pairwise_singleton _ _, fun a ha b hb => by
    obtain ⟨i, _, h2, rfl⟩ := nws_mem ha
    rw [List.mem_singleton.1 hb]
    exact .inl (show (i : Int) < ((k + 1 : Nat) : Int) by omega)⟩
theorem rn_srt : ∀ k : Nat, (rnL8 q k).Pairwise befF
  | 0 => .nil
  | k + 1 => List.pairwise_append.2 ⟨rn_srt k, one_pw _ _, fun a ha b hb => by
    obtain ⟨i, _, h2, rfl⟩ := rn_mem ha
    rw [(one_mem hb).2]
    exact .inl (show 100 + (i : Int) < 100 + ((k + 1 : Nat) : Int) by omega)⟩
theorem mg_srt : ∀ k : Nat, (mgL8 q n k).Pairwise befF
  | 0 => .nil
  | k + 1 => List.pairwise_append.2 ⟨mg_srt k, one_pw _ _, fun a ha b hb => by
    obtain ⟨i, _, h2, _, rfl⟩ := mg_mem ha
    rw [(one_mem hb).2]
    exact .inl (show 200 + (i : Int) < 200 + ((k + 1 : Nat) : Int) by omega)⟩
theorem lin_srt (hn : n ≤ 30) : srtF8 (linP q n) := by
  refine List.pairwise_append.2 ⟨List.pairwise_append.2 ⟨nws_srt n, rn_srt n, fun a ha b hb => ?_⟩, mg_srt n, fun a ha b hb => ?_⟩
  · obtain ⟨i, _, h2, rfl⟩ := nws_mem ha
    obtain ⟨j, _, _, rfl⟩ := rn_mem hb
    exact .inl (show (i : Int) < 100 + (j : Int) by omega)
  · obtain ⟨j, _, _, _, rfl⟩ := mg_mem hb
    rcases List.mem_append.1 ha with ha | ha
    · obtain ⟨i, _, h2, rfl⟩ := nws_mem ha
      exact .inl (show (i : Int) < 200 + (j : Int) by omega)
    · obtain ⟨i, _, h2, rfl⟩ := rn_mem ha
      exact .inl (show 100 + (i : Int) < 200 + (j : Int) by omega)
theorem one_len (b : Bool) (x : FD) : (one8 b x).length ≤ 1 := by unfold one8; split <;> simp
theorem nws_len : ∀ k : Nat, (nwsL8 k).length = k
  | 0 => rfl
  | k + 1 => by show (nwsL8 k ++ [fN8 (k + 1)]).length = k + 1; rw [List.length_append, nws_len k]; rfl
theorem mx_len : ∀ k : Nat, (mxL8 q n k).length ≤ 2 * k
  | 0 => Nat.le_refl _
  | k + 1 => by
    show ((mxL8 q n k ++ one8 _ _) ++ one8 _ _).length ≤ 2 * (k + 1)
    have h := mx_len k
    have h1 := one_len (nmq q (k + 1)) (fR8 (k + 1))
    have h2 := one_len (mrq q n (k + 1)) (fM8 q n (k + 1))
    rw [List.length_append, List.length_append]
    omega
theorem lin_len : (linX q n).length ≤ 3 * n := by
  unfold linX
  have := mx_len (q := q) (n := n) n
  rw [List.length_append, nws_len]
  omega
theorem apart_srt {l : List FD} (h : srtF8 l) : apartF l := List.Pairwise.imp (fun {a b} h1 h2 => by unfold befF at h1; omega) h
theorem apart_perm9 {l m : List FD} (h : l.Perm m) (ha : apartF m) : apartF l := (h.pairwise_iff (fun {a b} h1 h2 => h1 ⟨h2.1.symm, h2.2.symm⟩)).2 ha
theorem lin_any (hn : n ≤ 30) {X : List FD} (h : X.Perm (linP q n)) : (∀ x ∈ X, rightF x) ∧ apartF X ∧ X.length ≤ 90 ∧ takeAll X = linP q n := by
  have hr : ∀ x ∈ X, rightF x := fun x hx => lin_right hn x (h.mem_iff.1 hx)
  have ha := apart_perm9 h (apart_srt (lin_srt hn))
  have hl : X.length ≤ 90 := by rw [h.length_eq, ← lin_perm.length_eq]; have := lin_len (q := q) (n := n); omega
  have hp := all_perm X hr ha (by omega)
  exact ⟨hr, ha, hl, srt_ext (takeAll_ok X).srt (lin_srt hn) fun y => (hp.mem_iff.trans h.mem_iff)⟩
def gL8 (f : Nat → HG) : Nat → List HG
  | 0 => []
  | m + 1 => gL8 f m ++ [f (m + 1)]
section
variable {f g : Nat → HG} (hf : ∀ k : Nat, (f k).id = (k : Int))
include hf
theorem gL_none : ∀ {m k : Nat}, m < k → lkH (gL8 f m) (k : Int) = none
  | 0, k, _ => rfl
  | m + 1, k, h => by
    show lkH (gL8 f m ++ [f (m + 1)]) _ = none
    rw [lkH_snoc, gL_none (m := m) (by omega), hf]
    dsimp only
    rw [if_neg (by omega)]
theorem gL_lk : ∀ {m k : Nat}, 1 ≤ k → k ≤ m → lkH (gL8 f m) (k : Int) = some (f k)
  | 0, k, h1, h2 => by omega
  | m + 1, k, h1, h2 => by
    show lkH (gL8 f m ++ [f (m + 1)]) _ = _
    rw [lkH_snoc]
    by_cases h : k ≤ m
    · rw [gL_lk h1 h]
    · obtain rfl : k = m + 1 := by omega
      rw [gL_none hf (by omega), hf]
      dsimp only
      rw [if_pos rfl]
omit hf in
theorem gL_mem : ∀ {m : Nat} {h : HG}, h ∈ gL8 f m → ∃ k, 1 ≤ k ∧ k ≤ m ∧ h = f k
  | 0, h, hh => by cases hh
  | m + 1, h, hh => by
    rcases List.mem_append.1 hh with hh | hh
    · obtain ⟨k, h1, h2, h3⟩ := gL_mem hh; exact ⟨k, h1, by omega, h3⟩
    · exact ⟨m + 1, by omega, Nat.le_refl _, List.mem_singleton.1 hh⟩
omit hf in
theorem gL_congr : ∀ {m : Nat}, (∀ k, 1 ≤ k → k ≤ m → f k = g k) → gL8 f m = gL8 g m
  | 0, _ => rfl
  | m + 1, h => by
    show gL8 f m ++ [f (m + 1)] = gL8 g m ++ [g (m + 1)]
    rw [gL_congr fun k h1 h2 => h k h1 (by omega), h (m + 1) (by omega) (Nat.le_refl _)]
omit hf in
theorem setH_app : ∀ {l : List HG} {h x : HG}, lkH l h.id = none → x.id = h.id → setH (l ++ [x]) h = l ++ [h]
  | [], h, x, _, hx => by show setH [x] h = [h]; unfold setH; rw [if_pos hx]
  | y :: l, h, x, hn, hx => by
    rw [lkH_cons] at hn
    show setH (y :: (l ++ [x])) h = _
    unfold setH
    by_cases hy : y.id = h.id
    · rw [if_pos hy] at hn; cases hn
    · rw [if_neg hy] at hn ⊢
      rw [setH_app hn hx]; rfl
omit hf in
theorem setH_skip : ∀ {l : List HG} {h x : HG}, x.id ≠ h.id → setH (l ++ [x]) h = setH l h ++ [x]
  | [], h, x, hx => by show setH [x] h = [x]; unfold setH; rw [if_neg hx]; rfl
  | y :: l, h, x, hx => by
    show setH (y :: (l ++ [x])) h = _
    unfold setH
    by_cases hy : y.id = h.id
    · rw [if_pos hy, if_pos hy]; rfl
    · rw [if_neg hy, if_neg hy, setH_skip hx]; rfl
theorem gL_set : ∀ {m k : Nat} {h : HG}, h.id = (k : Int) → 1 ≤ k → k ≤ m → setH (gL8 f m) h = gL8 (fun j => if j = k then h else f j) m
  | 0, k, h, _, h1, h2 => by omega
  | m + 1, k, h, hi, h1, h2 => by
    show setH (gL8 f m ++ [f (m + 1)]) h = gL8 _ m ++ [if m + 1 = k then h else f (m + 1)]
    by_cases hk : m + 1 = k
    · rw [if_pos hk, setH_app (by rw [hi]; exact gL_none hf (by omega)) (by rw [hf, hi]; omega)]
      congr 1
      exact gL_congr fun j _ hj => (if_neg (by omega)).symm
    · rw [if_neg hk, setH_skip (by rw [hf, hi]; omega), gL_set hi h1 (by omega)]
end
def gH (q : Nat → Nat) (n a b k : Nat) : HG := ⟨(k : Int), if k ≤ a ∧ nmq q k = true then nwB k else nmB k, if k ≤ a ∧ nmq q k = true then [nmB k] else [], [], if k ≤ b then ((inV q n k : Nat) : Int) else 0⟩
theorem gH_id (a b k : Nat) : (gH q n a b k).id = (k : Int) := rfl
theorem gH_into {a b k : Nat} (h : ¬k ≤ b) : (gH q n a b k).into = 0 := if_neg h
theorem st1 : ∀ m : Nat, stF (nwsL8 m) = ⟨gL8 (gH q n 0 0) m, []⟩
  | 0 => rfl
  | m + 1 => by
    show stF (nwsL8 m ++ [fN8 (m + 1)]) = ⟨gL8 (gH q n 0 0) m ++ [gH q n 0 0 (m + 1)], []⟩
    rw [stF_snoc, st1 m]
    unfold applyS accS
    rw [show lkH (gL8 (gH q n 0 0) m) (fN8 (m + 1)).hd = none from gL_none (gH_id 0 0) (Nat.lt_succ_self m)]
    dsimp only
    rw [if_pos (show (fN8 (m + 1)).kind = 1 from rfl)]
    dsimp only
    unfold gH
    rw [if_neg (by omega), if_neg (by omega), if_neg (by omega)]
    rfl
theorem st2 : ∀ a : Nat, a ≤ n → stF (nwsL8 n ++ rnL8 q a) = ⟨gL8 (gH q n a 0) n, []⟩
  | 0, _ => by
    show stF (nwsL8 n ++ []) = _
    rw [List.append_nil]; exact st1 n
  | a + 1, h => by
    show stF (nwsL8 n ++ (rnL8 q a ++ one8 (nmq q (a + 1)) (fR8 (a + 1)))) = _
    rw [← List.append_assoc]
    have ih := st2 a (by omega)
    unfold one8
    by_cases hb : nmq q (a + 1) = true
    · rw [if_pos hb, stF_snoc, ih]
      unfold applyS accS
      rw [show lkH (gL8 (gH q n a 0) n) (fR8 (a + 1)).hd = some (gH q n a 0 (a + 1)) from gL_lk (gH_id a 0) (by omega) h]
      dsimp only
      rw [if_neg (by show ¬(2 : Int) = 1; decide), if_neg (fun h9 => h9 (gH_into (by omega))), if_pos (show (fR8 (a + 1)).kind = 2 from rfl)]
      dsimp only
      rw [gL_set (gH_id a 0) (k := a + 1) rfl (by omega) h]
      congr 1
      refine gL_congr fun k h1 h2 => ?_
      by_cases hk : k = a + 1
      · rw [if_pos hk]
        subst hk
        have n1 : ¬(a + 1 ≤ a ∧ nmq q (a + 1) = true) := by omega
        have p1 : a + 1 ≤ a + 1 ∧ nmq q (a + 1) = true := ⟨Nat.le_refl _, hb⟩
        show HG.mk _ (nwB (a + 1)) ((if a + 1 ≤ a ∧ nmq q (a + 1) = true then [nmB (a + 1)] else []) ++ [if a + 1 ≤ a ∧ nmq q (a + 1) = true then nwB (a + 1) else nmB (a + 1)]) [] _ = HG.mk _ (if a + 1 ≤ a + 1 ∧ nmq q (a + 1) = true then nwB (a + 1) else nmB (a + 1)) (if a + 1 ≤ a + 1 ∧ nmq q (a + 1) = true then [nmB (a + 1)] else []) [] _
        rw [if_neg n1, if_neg n1, if_pos p1, if_pos p1]
        rfl
      · rw [if_neg hk]
        unfold gH
        have e : (k ≤ a ∧ nmq q k = true) = (k ≤ a + 1 ∧ nmq q k = true) := propext ⟨fun h => ⟨by omega, h.2⟩, fun h => ⟨by omega, h.2⟩⟩
        simp only [e]
    · rw [if_neg hb, List.append_nil, ih]
      congr 1
      refine gL_congr fun k h1 h2 => ?_
      unfold gH
      have e : (k ≤ a ∧ nmq q k = true) = (k ≤ a + 1 ∧ nmq q k = true) := propext ⟨fun h => ⟨by omega, h.2⟩, fun h => ⟨by
        rcases Nat.lt_or_eq_of_le h.1 with h3 | h3
        · omega
        · rw [h3] at h; exact absurd h.2 hb, h.2⟩⟩
      simp only [e]
theorem gH_edge {a b k : Nat} {c : Int} (h : c ∈ edges (gH q n a b k)) : (k : Int) < c := by
  unfold edges at h
  split at h
  · rename_i h1
    rw [List.mem_singleton.1 h]
    have h1 : (0 : Int) < if k ≤ b then ((inV q n k : Nat) : Int) else 0 := h1
    show (k : Int) < if k ≤ b then ((inV q n k : Nat) : Int) else 0
    split at h1
    · rename_i h2
      rw [if_pos h2]
      have := inV_pos (q := q) (n := n) (k := k) (by omega)
      omega
    · omega
  · cases h
theorem lin_rch {a b m : Nat} {t id : Int} (h : RchH (gL8 (gH q n a b) m) t id) : id ≤ t := by
  induction h with
  | here => exact Int.le_refl _
  | step h1 h2 _ ih =>
    obtain ⟨m1, m2⟩ := lkH_mem h1
    obtain ⟨k, _, _, rfl⟩ := gL_mem m1
    have h3 := gH_edge h2
    have h4 : (k : Int) = _ := m2
    omega
theorem st3 : ∀ b : Nat, b ≤ n → stF (nwsL8 n ++ rnL8 q n ++ mgL8 q n b) = ⟨gL8 (gH q n n b) n, []⟩
  | 0, _ => by
    show stF (nwsL8 n ++ rnL8 q n ++ []) = _
    rw [List.append_nil]; exact st2 n (Nat.le_refl _)
  | b + 1, h => by
    show stF (nwsL8 n ++ rnL8 q n ++ (mgL8 q n b ++ one8 (mrq q n (b + 1)) (fM8 q n (b + 1)))) = _
    rw [← List.append_assoc]
    have ih := st3 b (by omega)
    unfold one8
    by_cases hb : mrq q n (b + 1) = true
    · have hv := inV_yes hb
      rw [if_pos hb, stF_snoc, ih]
      unfold applyS accS
      rw [show lkH (gL8 (gH q n n b) n) (fM8 q n (b + 1)).hd = some (gH q n n b (b + 1)) from gL_lk (gH_id n b) (by omega) h]
      dsimp only
      have hto : lkH (gL8 (gH q n n b) n) (fM8 q n (b + 1)).to = some (gH q n n b (inV q n (b + 1))) := gL_lk (gH_id n b) (by omega) hv.2
      have hno : ¬RchH (gL8 (gH q n n b) n) (fM8 q n (b + 1)).hd (fM8 q n (b + 1)).to := fun h9 => by
        have h8 : ((inV q n (b + 1) : Nat) : Int) ≤ ((b + 1 : Nat) : Int) := lin_rch h9
        omega
      rw [if_neg (by show ¬(4 : Int) = 1; decide), if_neg (fun h9 => h9 (gH_into (by omega))), if_neg (by show ¬(4 : Int) = 2; decide), if_neg (by show ¬(4 : Int) = 3; decide), if_neg (by rw [hto]; exact fun h => by cases h), if_neg hno, if_pos (show (fM8 q n (b + 1)).kind = 4 from rfl)]
      dsimp only
      rw [gL_set (gH_id n b) (k := b + 1) rfl (by omega) h]
      congr 1
      refine gL_congr fun k h1 h2 => ?_
      by_cases hk : k = b + 1
      · rw [if_pos hk]
        subst hk
        unfold gH
        rw [if_pos (Nat.le_refl (b + 1))]
        rfl
      · rw [if_neg hk]
        unfold gH
        have e : (k ≤ b) = (k ≤ b + 1) := propext ⟨fun h => by omega, fun h => by omega⟩
        simp only [e]
    · rw [if_neg hb, List.append_nil, ih]
      congr 1
      refine gL_congr fun k h1 h2 => ?_
      unfold gH
      by_cases hk : k = b + 1
      · subst hk
        rw [if_neg (by omega : ¬b + 1 ≤ b), if_pos (Nat.le_refl _), inV_no hb]
        rfl
      · have e : (k ≤ b) = (k ≤ b + 1) := propext ⟨fun h => by omega, fun h => by omega⟩
        simp only [e]
def linH (q : Nat → Nat) (n : Nat) : List HG := gL8 (gH q n n n) n
theorem lin_st : stF (linP q n) = ⟨linH q n, []⟩ := st3 n (Nat.le_refl _)
theorem lin_acy (hn : n ≤ 30) : Acy (linH q n) := by
  have h := Acy.st (linP q n) (s := ⟨[], []⟩) Acy.nil (lin_right hn)
  have e : (linP q n).foldl applyS ⟨[], []⟩ = ⟨linH q n, []⟩ := lin_st
  rw [e] at h
  exact h
theorem lin_step (W : List ByteArray) {k : Nat} (h : k ≤ n) : stepR W (gH q n n n k) = ((inV q n k : Nat) : Int) := by
  unfold stepR splF gH
  dsimp only
  rw [if_pos h]
  split
  · rfl
  · show (0 : Int) = _
    omega
theorem lin_go (hn : n ≤ 30) (W : List ByteArray) {k : Nat} (h1 : 1 ≤ k) (h : k ≤ n) (h0 : 0 < inV q n k) : resF (linH q n) W (k : Int) = resF (linH q n) W ((inV q n k : Nat) : Int) := by
  have hv := inV_pos h0
  have hl : lkH (linH q n) (k : Int) = some (gH q n n n k) := gL_lk (gH_id n n) h1 h
  obtain ⟨m, hm⟩ := (lin_acy hn).res W (gL_lk (f := gH q n n n) (gH_id n n) (m := n) (k := inV q n k) (by omega) hv.2)
  have hs := lin_step (q := q) W h
  refine EndsN.res (n := m + 1) (.go hl (by rw [hs]; omega) ?_)
  rw [hs]
  exact hm
theorem lin_end (W : List ByteArray) {k : Nat} (h1 : 1 ≤ k) (h : k ≤ n) (h0 : inV q n k = 0) : resF (linH q n) W (k : Int) = (k : Int) :=
  EndsN.res (.stop (gL_lk (f := gH q n n n) (gH_id n n) h1 h) (by rw [lin_step W h, h0]; rfl))
theorem lin_resolve (W : List ByteArray) {k : Nat} (h1 : 1 ≤ k) (h : k ≤ n) : resolveF (linH q n) W (k : Int) = (resF (linH q n) W (k : Int), true) := by
  unfold resolveF
  rw [show lkH (linH q n) (k : Int) = some (gH q n n n k) from gL_lk (gH_id n n) h1 h]
theorem lin_find (hn : n ≤ 30) {k : Nat} (h1 : 1 ≤ k) (h : k ≤ n) : findF (linH q n) (upB k) = ((k : Int), true) := by
  have hf := lin_fold h1 (by omega : k ≤ 30)
  have hpos : ∀ g ∈ linH q n, 1 ≤ g.id := fun g hg => ((lin_acy hn).pos g hg).1
  have hmem : gH q n n n k ∈ linH q n := (lkH_mem (gL_lk (f := gH q n n n) (gH_id n n) h1 h)).1
  have key : findT (linH q n) (nmB k) = (k : Int) := by
    have h3 := leastB_is (namedB (nmB k)) (linH q n) hpos
    have h4 := leastB_is (alsoB (nmB k)) (linH q n) hpos
    unfold findT
    by_cases hq : nmq q k = true
    · have h0 : leastB (namedB (nmB k)) (linH q n) = 0 := by
        rcases h3 with ⟨e, _⟩ | ⟨⟨g, hg, hp, _⟩, _⟩
        · exact e
        · obtain ⟨j, j1, j2, rfl⟩ := gL_mem hg
          have hp := of_decide_eq_true hp
          have hfj := lin_fold j1 (by omega : j ≤ 30)
          unfold gH at hp
          dsimp only at hp
          by_cases hj : nmq q j = true
          · rw [if_pos ⟨j2, hj⟩, hfj.2.1] at hp
            exact (nw_nm hp).elim
          · rw [if_neg (fun h => hj h.2), hfj.1] at hp
            have := nm_inj (by omega) (by omega) hp
            subst this
            exact absurd hq hj
      rw [if_pos h0]
      rcases h4 with ⟨_, hno⟩ | ⟨⟨g, hg, hp, hi⟩, _⟩
      · have h9 := hno _ hmem
        unfold alsoB gH amg at h9
        dsimp only at h9
        rw [if_pos ⟨h, hq⟩] at h9
        simp [hf.1] at h9
      · obtain ⟨j, j1, j2, rfl⟩ := gL_mem hg
        have hfj := lin_fold j1 (by omega : j ≤ 30)
        unfold alsoB gH amg at hp
        dsimp only at hp
        by_cases hj : nmq q j = true
        · rw [if_pos ⟨j2, hj⟩] at hp
          simp [hfj.1] at hp
          have := nm_inj (by omega) (by omega) hp
          subst this
          exact hi.symm
        · rw [if_neg (fun h => hj h.2)] at hp
          simp at hp
    · have h0 : leastB (namedB (nmB k)) (linH q n) = (k : Int) := by
        rcases h3 with ⟨_, hno⟩ | ⟨⟨g, hg, hp, hi⟩, _⟩
        · have h9 := hno _ hmem
          unfold namedB gH at h9
          dsimp only at h9
          rw [if_neg (fun h => hq h.2), hf.1] at h9
          simp at h9
        · obtain ⟨j, j1, j2, rfl⟩ := gL_mem hg
          have hp := of_decide_eq_true hp
          have hfj := lin_fold j1 (by omega : j ≤ 30)
          unfold gH at hp
          dsimp only at hp
          by_cases hj : nmq q j = true
          · rw [if_pos ⟨j2, hj⟩, hfj.2.1] at hp
            exact (nw_nm hp).elim
          · rw [if_neg (fun h => hj h.2), hfj.1] at hp
            have := nm_inj (by omega) (by omega) hp
            subst this
            exact hi.symm
      rw [if_neg (by rw [h0]; omega), h0]
  unfold findF
  rw [hf.2.2, key, if_neg nm_ne]
  have : decide ((k : Int) ≠ 0) = true := decide_eq_true (by omega)
  rw [this]
def inL (q : Nat → Nat) (n b : Nat) : List Int := (List.range (n + 1)).map fun j => if 1 ≤ j ∧ j ≤ b then ((inV q n j : Nat) : Int) else 0
theorem inL_len (b : Nat) : (inL q n b).length = n + 1 := by unfold inL; rw [List.length_map, List.length_range]
theorem inL_at {b k : Nat} (h : k < n + 1) : (inL q n b)[k]'(by rw [inL_len]; exact h) = if 1 ≤ k ∧ k ≤ b then ((inV q n k : Nat) : Int) else 0 := by
  unfold inL
  rw [List.getElem_map, List.getElem_range]
theorem inL_zero : (inL q n 0).map (Value.int .i64) = List.replicate (n + 1) (Value.int .i64 0) := by
  refine List.ext_getElem (by rw [List.length_map, inL_len, List.length_replicate]) fun k h1 h2 => ?_
  rw [List.length_map, inL_len] at h1
  rw [List.getElem_map, inL_at h1, if_neg (by omega), List.getElem_replicate]
theorem inL_set {b : Nat} (hb : b + 1 ≤ n) : (inL q n b).set (b + 1) ((inV q n (b + 1) : Nat) : Int) = inL q n (b + 1) := by
  refine List.ext_getElem (by rw [List.length_set, inL_len, inL_len]) fun k h1 h2 => ?_
  rw [inL_len] at h2
  rw [List.getElem_set, inL_at h2, inL_at h2]
  by_cases hk : b + 1 = k
  · subst hk
    rw [if_pos rfl, if_pos (by omega)]
  · rw [if_neg hk]
    by_cases h3 : 1 ≤ k ∧ k ≤ b
    · rw [if_pos h3, if_pos (by omega)]
    · rw [if_neg h3, if_neg (by omega)]
theorem inL_same {b : Nat} (h : inV q n (b + 1) = 0) : inL q n (b + 1) = inL q n b := by
  refine List.ext_getElem (by rw [inL_len, inL_len]) fun k h1 h2 => ?_
  rw [inL_len] at h2
  rw [inL_at h2, inL_at h2]
  by_cases hk : k = b + 1
  · subst hk
    rw [if_pos (by omega), if_neg (by omega), h]; rfl
  · by_cases h3 : 1 ≤ k ∧ k ≤ b
    · rw [if_pos h3, if_pos (by omega)]
    · rw [if_neg h3, if_neg (by omega)]
def qn (od : List Int) (k : Nat) : Nat := (od.getD (k % od.length) 0).toNat
theorem qn_nil {od : List Int} (h : od.length = 0) (k : Nat) : qn od k = 0 := by
  unfold qn
  rw [List.length_eq_zero_iff.1 h]; rfl
theorem qn_at {od : List Int} {k : Nat} (h : k % od.length < od.length) : qn od k = (od[k % od.length]).toNat := by
  unfold qn
  rw [List.getD_eq_getElem?_getD, List.getElem?_eq_getElem h]; rfl
def ordY (bk : Bool) (X : List FD) : List FD := if bk = true then X.reverse else X
theorem ordY_perm (bk : Bool) (X : List FD) : (ordY bk X).Perm X := by
  unfold ordY
  split
  · exact List.reverse_perm X
  · exact List.Perm.refl _
theorem ordY_len (bk : Bool) (X : List FD) : (ordY bk X).length = X.length := (ordY_perm bk X).length_eq
theorem ordY_yes {X : List FD} {k : Nat} (h : k < X.length) : (ordY true X)[k]'(by rw [ordY_len]; exact h) = X[X.length - 1 - k]'(by omega) := List.getElem_reverse _
theorem ordY_no {X : List FD} {k : Nat} (h : k < X.length) : (ordY false X)[k]'(by rw [ordY_len]; exact h) = X[k] := rfl
end Go.PK

namespace Go.PK
open Go Go.RowKit
theorem Qz : (∀ (p : Prop) [Decidable p], (decide p = true) = p) ∧ (∀ (p : Prop) [Decidable p], (decide p = false) = ¬p) ∧ (∀ a b : Bool, ((a && b) = true) = (a = true ∧ b = true)) ∧ (∀ a b : Bool, ((a || b) = true) = (a = true ∨ b = true)) ∧ (∀ a b : Bool, ((a && b) = false) = (a = false ∨ b = false)) ∧ (∀ a b : Bool, ((a || b) = false) = (a = false ∧ b = false)) ∧ (∀ b : Bool, ((!b) = true) = (b = false)) ∧ (∀ b : Bool, ((!b) = false) = (b = true)) ∧ (∀ (p : Prop) [Decidable p], (¬¬p) = p) :=
  ⟨fun p _ => decide_eq_true_eq, fun p _ => propext decide_eq_false_iff_not, Bool.and_eq_true, Bool.or_eq_true, fun a b => propext Bool.and_eq_false_iff, fun a b => propext Bool.or_eq_false_iff, Bool.not_eq_true', Bool.not_eq_false', fun p _ => propext Decidable.not_not⟩
theorem Qy : (∀ (a : Bool × Bool) (xs bs : List (Bool × Bool)), (a :: xs) ++ bs = a :: (xs ++ bs)) ∧ (∀ xs : List (Bool × Bool), [] ++ xs = xs) ∧ (∀ v, gvl [] v = v) ∧ (∀ gs v, gvl ((true, true) :: gs) v = gvl gs v) ∧ (∀ gs v, gvl ((false, false) :: gs) v = gvl gs v) := ⟨fun _ _ _ => rfl, fun _ => rfl, gvl_nil, gvl_t, gvl_f⟩
abbrev Vi (n : Int) : Value := .int .i64 n
abbrev Pt (p : Nat) : Value := .pointer (some ⟨p, 0, none⟩)
abbrev Bk (p : Nat) (l : List Value) (t : TypeId) : Nat × Obj := (p, .cells l.toArray t)
theorem Zo {p : Prop} (h : p := by first | omega | (dsimp only; omega)) : p := h
theorem Zh {p : Prop} (h : p := by repeat (first | exact List.Mem.head _ | apply List.Mem.tail)) : p := h
theorem Zi {p : Prop} (h : p := by repeat (first | exact List.Mem.head _ | apply List.Mem.tail | apply List.mem_append_right)) : p := h
theorem Zu {p : Prop} (h : p := by repeat (first | exact Sub.nil | refine Sub.cons rfl ?_)) : p := h
theorem Zk {p : Prop} (h : p := by kernel_rfl) : p := h
theorem Zx {p : Prop} (h : p := by simp only [maxLen]; omega) : p := h
section
variable {P : Program} {n : Nat} {l : List (Nat × Value)} {own : List (Nat × Obj)} {ro : List Snap} {lops : List Oper} {Q : Exit → Act → World → Prop} {K : Act → World → Prop}
  {rest : List (Option Bool × Nat)} {k : Option Bool} {i d j dj : Nat} {op : Op} {ty t : TypeId} {pos : String} {af : Array Edge} {x : Operand} {v : Value} {b c want : Bool}
theorem Xm (h : WX P lops.toArray Q K rest n ((d, v) :: l) own ro) (ho : lops[i]? = some ⟨some d, .move x, ty, pos, af, none⟩ := by exact rfl) (hk : k.getD true = true := by exact rfl) (hd : decide (d < n) = true := by exact rfl) (hx : ev l x = some v := by exact rfl) : WX P lops.toArray Q K ((k, i) :: rest) n l own ro := x_val ho hk hd (v_move hx) h
theorem Xa (h : WX P lops.toArray Q K rest n ((d, v) :: l) own ro) (ho : lops[i]? = some ⟨some d, .assign x, ty, pos, af, none⟩ := by exact rfl) (hk : k.getD true = true := by exact rfl) (hd : decide (d < n) = true := by exact rfl) (hx : ev l x = some v := by exact rfl) : WX P lops.toArray Q K ((k, i) :: rest) n l own ro := x_val ho hk hd (v_assign hx) h
theorem Xv (ho : lops[i]? = some ⟨some d, op, ty, pos, af, none⟩) (hv : OpV P n l own ro op ty v) (h : WX P lops.toArray Q K rest n ((d, v) :: l) own ro) (hk : k.getD true = true := by exact rfl) (hd : decide (d < n) = true := by exact rfl) : WX P lops.toArray Q K ((k, i) :: rest) n l own ro := x_val ho hk hd hv h
theorem Xb (ho : lops[i]? = some ⟨some d, op, ty, pos, af, none⟩) (hv : OpV P n l own ro op ty (.bool b)) (h : ∀ c, c = b → WX P lops.toArray Q K rest n ((d, .bool c) :: l) own ro) (hk : k.getD true = true := by exact rfl) (hd : decide (d < n) = true := by exact rfl) : WX P lops.toArray Q K ((k, i) :: rest) n l own ro := x_bool ho hk hd hv h
theorem Xi (ho : lops[i]? = some ⟨some d, op, ty, pos, af, some (j, want)⟩) (hj : (lops[j]?).bind (·.dst) = some dj) (hb : l.lookup dj = some (.bool b)) (hv : b = want → OpV P n l own ro op ty v) (h : WX P lops.toArray Q K rest n ((d, gvl ([] ++ [(b, want)]) v) :: l) own ro) (hk : k.getD true = true := by exact rfl) (hd : decide (d < n) = true := by exact rfl) : WX P lops.toArray Q K ((k, i) :: rest) n l own ro := x_if [] ho hj hb hk hd (fun hg => hv hg.1) h
theorem Xg (h : WX P lops.toArray Q K rest n ((d, gvl ([] ++ [(b, want)]) v) :: l) own ro) (ho : lops[i]? = some ⟨some d, .move x, ty, pos, af, some (j, want)⟩ := by exact rfl) (hj : (lops[j]?).bind (·.dst) = some dj := by exact rfl) (hb : l.lookup dj = some (.bool b) := by exact rfl) (hk : k.getD true = true := by exact rfl) (hd : decide (d < n) = true := by exact rfl) (hx : b = want → ev l x = some v := by intro hg0; (try subst hg0); (try simp only [Qy]); exact rfl) : WX P lops.toArray Q K ((k, i) :: rest) n l own ro := x_if [] ho hj hb hk hd (fun hg => v_move (hx hg.1)) h
theorem Xj (ho : lops[i]? = some ⟨some d, op, ty, pos, af, some (j, want)⟩) (hj : (lops[j]?).bind (·.dst) = some dj) (hb : l.lookup dj = some (.bool b)) (hv : b = want → OpV P n l own ro op ty (.bool c)) (h : ∀ c', c' = c → WX P lops.toArray Q K rest n ((d, gvl ([] ++ [(b, want)]) (.bool c')) :: l) own ro) (hk : k.getD true = true := by exact rfl) (hd : decide (d < n) = true := by exact rfl) : WX P lops.toArray Q K ((k, i) :: rest) n l own ro := x_ifb [] ho hj hb hk hd (fun hg => hv hg.1) h
theorem Vl {td : TypeDesc} {p o : Nat} (ht : P.underlying t = some td) (hx : ev l x = some (.pointer (some ⟨p, o, none⟩))) (hd : aggT td = false := by exact rfl) (hc : At own ro p o v := by first | exact at_ownL (.head _) rfl | exact at_ownL (.tail _ (.head _)) rfl | exact at_ownL (.tail _ (.tail _ (.head _))) rfl | (apply at_ownL; ((repeat (first | exact List.Mem.head _ | apply List.Mem.tail | apply List.mem_append_right))); rfl) | (refine at_ro (by first | exact .head _ | exact .tail _ (.head _) | exact .tail _ (.tail _ (.head _)) | simp) ?_ (by assumption); trivial)) : OpV P n l own ro (.load t x) ty v := v_load ht hd hx hc
theorem Ze (h : S K n l own ro) : WX P lops.toArray Q K [] n l own ro := x_end h
theorem Zt {y : Code} (h : W P y Q n l own ro) : S (Exit.then (y.wp P Q) Q .normal) n l own ro := h
theorem Zs {x y : Code} (h : W P x (Exit.then (y.wp P Q) Q) n l own ro) : W P (.seq x y) Q n l own ro := w_seq h
theorem Zr {id : Nat} (h : WX P lops.toArray Q (fun a w => Q .normal a w) (tailFrom 0 lops.length) n l own ro) : W P (.region id lops.toArray false) Q n l own ro := rg_text h
theorem Xf {fs : Array Field} {f : Field} {m a off : Nat} (off' : Nat) (ho : lops[i]? = some ⟨some d, .fieldAddr t x j, ty, pos, af, none⟩) (ht : P.underlying t = some (.struct fs)) (hf : fs[j]? = some f) (hs : (P.info? f.type).map (·.size) = some m) (h : WX P lops.toArray Q K rest n ((d, .pointer (some ⟨a, off', none⟩)) :: l) own ro)
    (hm : m ≠ 0 := by decide) (hx : ev l x = some (.pointer (some ⟨a, off, none⟩)) := by exact rfl) (ho' : off + f.offset = off' := by exact rfl) (hk : k.getD true = true := by exact rfl) (hd : decide (d < n) = true := by exact rfl) : WX P lops.toArray Q K ((k, i) :: rest) n l own ro := x_val ho hk hd (v_fieldAddr ht hf hs hm hx ho') h
theorem Xn (h : WX P lops.toArray Q K rest n ((d, v) :: l) own ro) (ho : lops[i]? = some ⟨some d, .nilCheck x, ty, pos, af, none⟩ := by exact rfl) (hk : k.getD true = true := by exact rfl) (hd : decide (d < n) = true := by exact rfl) (hv : OpV P n l own ro (.nilCheck x) ty v := by exact v_nilCheck rfl) : WX P lops.toArray Q K ((k, i) :: rest) n l own ro := x_val ho hk hd hv h
theorem Xe {e : Nat} (h : WX P lops.toArray Q K rest n ((d, v) :: l) own ro) (ho : lops[i]? = some ⟨some d, .extract x e, ty, pos, af, none⟩ := by exact rfl) (hk : k.getD true = true := by exact rfl) (hd : decide (d < n) = true := by exact rfl) (hv : OpV P n l own ro (.extract x e) ty v := by exact v_extract rfl rfl) : WX P lops.toArray Q K ((k, i) :: rest) n l own ro := x_val ho hk hd hv h
theorem Xl {td : TypeDesc} {p o : Nat} (ho : lops[i]? = some ⟨some d, .load t x, ty, pos, af, none⟩) (ht : P.underlying t = some td) (hx : ev l x = some (.pointer (some ⟨p, o, none⟩))) (hc : At own ro p o v) (h : WX P lops.toArray Q K rest n ((d, v) :: l) own ro) (hd' : aggT td = false := by exact rfl) (hk : k.getD true = true := by exact rfl) (hd : decide (d < n) = true := by exact rfl) : WX P lops.toArray Q K ((k, i) :: rest) n l own ro := x_val ho hk hd (v_load ht hd' hx hc) h
end
end Go.PK
