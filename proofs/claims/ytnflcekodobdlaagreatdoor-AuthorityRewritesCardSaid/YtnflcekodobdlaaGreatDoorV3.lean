/- Of the proofs of YtnflcekodobdlaaGreatDoor: PkRew PkFl8 PkTurnH PkRw2 PkRw3 PkEnc8 PkRef8 PkTak8 PkSerV PkFld8 PkCmp8 PkLaw8 PkFix8 PkBulk PkBulk2 PkTy8 PkOld8 PkOrd8 PkMany8 PkCir8 PkRec8 PkOwnG PkChg8 PkInvS PkTurnK PkOrdT PkZ, put together. -/
import Derived.Test.YtnflcekodobdlaaGreatDoorV2
import Derived.Test.YtnflcekodobdlaaGreatDoorV1
import Derived.Lib.AtoiTie
set_option linter.unusedVariables false
set_option linter.unusedSimpArgs false
set_option maxRecDepth 100000

namespace Go.PK
open Go Go.RowKit
def tagT : ByteArray := ⟨#[50, 52, 53]⟩
def ruledL : List ByteArray := [⟨#[49, 48, 48]⟩, ⟨#[49, 49, 48]⟩, ⟨#[54, 48, 48]⟩, ⟨#[54, 53, 48]⟩, ⟨#[55, 48, 48]⟩]
def titS (subs : List Sb) : ByteArray := subs.foldl (fun a s => if s.code = 97 ∨ s.code = 98 then a ++ (spcB ++ s.text) else a) ⟨#[]⟩
def titF (fs : List Fl) : ByteArray := match fs.find? (fun f => decide (f.tag = tagT)) with | some f => titS f.subs | none => ⟨#[]⟩
def subI (c : UInt8) (l : List Sb) : Int := fidx (fun s : Sb => decide (s.code = c)) l
def txtI (l : List Sb) (i : Int) : ByteArray := match l[i.toNat]? with | some s => s.text | none => ⟨#[]⟩
def numH (hs : List HG) (t : ByteArray) : Option Int := (hs.find? (fun h => decide (itoaS h.id = t))).map (·.id)
def hdF (hs : List HG) (l : List Sb) : Int × Bool :=
  match (if 0 ≤ subI 48 l then numH hs (txtI l (subI 48 l)) else none) with
  | some id => (id, true)
  | none => if 0 ≤ subI 97 l then findF hs (txtI l (subI 97 l)) else (0, false)
def putS (c : UInt8) (t : ByteArray) (front : Bool) (l : List Sb) : List Sb := if 0 ≤ subI c l then l.set (subI c l).toNat ⟨c, t⟩ else if front then ⟨c, t⟩ :: l else l ++ [⟨c, t⟩]
noncomputable def rewS (hs : List HG) (h : Int) (l : List Sb) : List Sb := putS 48 (itoaS h) false (putS 97 (nameF hs h).1 true l)
noncomputable def rewX (hs : List HG) (ttl : ByteArray) (f : Fl) : Fl := if amg ruledL f.tag = true ∧ (hdF hs f.subs).2 = true then { f with subs := rewS hs (resF hs (wordsP ttl) (hdF hs f.subs).1) f.subs } else f
noncomputable def rewF (hs : List HG) (fs : List Fl) : List Fl := fs.map (rewX hs (titF fs))
theorem subI_at {c : UInt8} {l : List Sb} (h : 0 ≤ subI c l) : ∃ i, ∃ hi : i < l.length, subI c l = (i : Nat) ∧ txtI l (subI c l) = l[i].text ∧ l[i].code = c := by
  obtain ⟨i, hi, h1⟩ := fidx_lt h
  refine ⟨i, hi, h1, ?_, ?_⟩
  · rw [show subI c l = (i : Nat) from h1]
    unfold txtI
    rw [Int.toNat_natCast, List.getElem?_eq_getElem hi]
  · have h2 : fidx (fun s : Sb => decide (s.code = c)) l = (i : Nat) := h1
    unfold fidx at h2
    cases hq : l.findIdx? (fun s : Sb => decide (s.code = c)) with
    | none => rw [hq] at h2; dsimp only at h2; omega
    | some j =>
      rw [hq] at h2
      dsimp only at h2
      have hj : j = i := by omega
      subst hj
      have := (List.findIdx?_eq_some_iff_getElem.1 hq).2.1
      exact of_decide_eq_true this
theorem atoi_itoa8 {n : Int} (h : 0 ≤ n) (h2 : n < 1000000000000000000) : Lib.atoi (itoaS n).data.toList = some n := by
  have hsz : (itoaS n).size ≤ 18 := (itoa_sz h 17).2 (by have : (10 : Int) ^ (17 + 1) = 1000000000000000000 := by decide
                                                         omega)
  have hl : (bl (itoaS n)).length ≤ 18 := by rw [bl_len]; exact hsz
  have h1 := atoi_digits (itoa_canon h) hl
  rw [itoa_num h, Lib.atoiAll_short _ hl] at h1
  show Lib.atoi (bl (itoaS n)) = _
  cases hq : Lib.atoi (bl (itoaS n)) with
  | none => rw [hq] at h1; cases h1
  | some v => rw [hq] at h1; injection h1 with h1; rw [h1]
def atoS8 (t : ByteArray) : Int := match Lib.atoi t.data.toList with | some v => v | none => 0
def atoB8 (t : ByteArray) : Bool := (Lib.atoi t.data.toList).isSome
theorem numH_iff {hs : List HG} {t : ByteArray} (hn : (hs.map (·.id)).Nodup) (hp : ∀ h ∈ hs, 1 ≤ h.id ∧ h.id < 1000000000000000000) (id : Int) : numH hs t = some id ↔ atoB8 t = true ∧ atoS8 t = id ∧ itoaS id = t ∧ (lkH hs id).isSome = true := by
  unfold numH
  constructor
  · intro h
    obtain ⟨g, hg, rfl⟩ := Option.map_eq_some_iff.1 h
    have hm := List.mem_of_find?_eq_some hg
    have ht : itoaS g.id = t := of_decide_eq_true (List.find?_some (p := fun h : HG => decide (itoaS h.id = t)) hg)
    obtain ⟨p1, p2⟩ := hp g hm
    have ha := atoi_itoa8 (n := g.id) (by omega) p2
    rw [ht] at ha
    refine ⟨by unfold atoB8; rw [ha]; rfl, by unfold atoS8; rw [ha], ht, by rw [lkH_of hn hm]; rfl⟩
  · rintro ⟨h1, h2, h3, h4⟩
    obtain ⟨g, hg⟩ := Option.isSome_iff_exists.1 h4
    obtain ⟨hm, rfl⟩ := lkH_mem hg
    cases hq : hs.find? (fun h => decide (itoaS h.id = t)) with
    | none =>
      have := List.find?_eq_none.1 hq g hm
      exact absurd (decide_eq_true h3) this
    | some g' =>
      have hm' := List.mem_of_find?_eq_some hq
      have ht' : itoaS g'.id = t := of_decide_eq_true (List.find?_some (p := fun h : HG => decide (itoaS h.id = t)) hq)
      obtain ⟨p1, p2⟩ := hp g' hm'
      have ha := atoi_itoa8 (n := g'.id) (by omega) p2
      rw [ht'] at ha
      unfold atoS8 at h2
      rw [ha] at h2
      show some g'.id = some g.id
      exact congrArg some h2
end Go.PK

namespace Go.PK
open Go Go.RowKit
theorem sb8_at {D : Nat → Prop} {w : World} {A : Option Addr} {cp : Nat} {xs : List Sb} (h : sliceRd tySb D w (.slice A xs.length cp) xs) {k : Nat} (hk : k < xs.length) : ∃ b o, A = some ⟨b, o, none⟩ ∧ D b ∧ ∀ j (hj : j < (sbC xs[k]).length), w.cell? ⟨b, o + k * 2 + j, none⟩ = some (sbC xs[k])[j] := by
  obtain ⟨A', c', hv, h1, h2, h3⟩ := h
  injection hv with e1 e2 e3
  subst e1 e3
  obtain ⟨b, o, e, hD, _, hc⟩ := h3 (by omega)
  obtain ⟨cs, k1, k2, _⟩ := hc k hk
  subst k2
  exact ⟨b, o, e, hD, fun j hj => k1 j hj⟩
def flV8 (f : Fl) (v : Value) : List Value := [.string f.tag, .string f.ind, .string f.data, v]
theorem fl8_at {D : Nat → Prop} {w : World} {A : Option Addr} {cp : Nat} {xs : List Fl} (h : sliceRd tyFl D w (.slice A xs.length cp) xs) {k : Nat} (hk : k < xs.length) : ∃ b o v, A = some ⟨b, o, none⟩ ∧ D b ∧ (∀ j (hj : j < (flV8 xs[k] v).length), w.cell? ⟨b, o + k * 4 + j, none⟩ = some (flV8 xs[k] v)[j]) ∧ sliceRd tySb D w v xs[k].subs ∧ xs[k].ok := by
  obtain ⟨A', c', hv, h1, h2, h3⟩ := h
  injection hv with e1 e2 e3
  subst e1 e3
  obtain ⟨b, o, e, hD, _, hc⟩ := h3 (by omega)
  obtain ⟨cs, k1, v, k2, k3, k4⟩ := hc k hk
  subst k2
  exact ⟨b, o, v, e, hD, fun j hj => k1 j hj, k4, k3⟩
theorem code_eq {a b : UInt8} : (((a.toNat : Nat) : Int) = ((b.toNat : Nat) : Int)) ↔ a = b := by
  rw [Int.ofNat_inj]
  exact UInt8.toNat_inj
theorem titS_step {l : List Sb} {j : Nat} (h : j < l.length) : titS (l.take (j + 1)) = if l[j].code = 97 ∨ l[j].code = 98 then titS (l.take j) ++ (spcB ++ l[j].text) else titS (l.take j) := by
  unfold titS
  rw [List.take_succ_eq_append_getElem h, List.foldl_append]; rfl
theorem titF_at {fs : List Fl} {k : Nat} (h : k < fs.length) (ht : fs[k].tag = tagT) (hn : ∀ j (hj : j < fs.length), j < k → fs[j].tag ≠ tagT) : titF fs = titS fs[k].subs := by
  have e : fs.find? (fun f => decide (f.tag = tagT)) = some fs[k] := List.find?_eq_some_iff_getElem.2 ⟨decide_eq_true ht, k, h, rfl, fun j hj => by rw [decide_eq_false (hn j (by omega) hj)]; rfl⟩
  unfold titF
  rw [e]
theorem titF_no {fs : List Fl} (hn : ∀ j (hj : j < fs.length), fs[j].tag ≠ tagT) : titF fs = ⟨#[]⟩ := by
  have e : fs.find? (fun f => decide (f.tag = tagT)) = none := List.find?_eq_none.2 fun x hx => by
    obtain ⟨j, hj, rfl⟩ := List.getElem_of_mem hx
    rw [decide_eq_false (hn j hj)]; exact Bool.false_ne_true
  unfold titF
  rw [e]
theorem txtI_at {l : List Sb} {i : Nat} (h : i < l.length) : txtI l (i : Nat) = l[i].text := by
  unfold txtI
  rw [Int.toNat_natCast, List.getElem?_eq_getElem h]
theorem titS_size {l : List Sb} (h : ∀ s ∈ l, s.text.size ≤ 1000) : ∀ j, j ≤ l.length → (titS (l.take j)).size ≤ j * 1001
  | 0, _ => by rw [List.take_zero]; exact Nat.zero_le _
  | j + 1, hj => by
    have h1 := titS_size h j (by omega)
    have h2 := h _ (List.getElem_mem (show j < l.length by omega))
    rw [titS_step (by omega), Nat.add_mul, Nat.one_mul]
    split
    · rw [ByteArray.size_append, ByteArray.size_append, show spcB.size = 1 from rfl]; omega
    · exact Nat.le_trans h1 (Nat.le_add_right _ _)
def smFl (f : Fl) : Prop := f.subs.length ≤ 1000 ∧ ∀ s ∈ f.subs, s.text.size ≤ 1000
theorem titF_size {fs : List Fl} (h : ∀ f ∈ fs, smFl f) : (titF fs).size ≤ 1001000 := by
  unfold titF
  cases hq : fs.find? (fun f => decide (f.tag = tagT)) with
  | none => exact Nat.zero_le _
  | some f =>
    obtain ⟨h1, h2⟩ := h f (List.mem_of_find?_eq_some hq)
    have h3 := titS_size h2 _ (Nat.le_refl _)
    rw [List.take_length] at h3
    dsimp only
    omega
end Go.PK

namespace Go.PK
open Go Go.RowKit
section
variable {P : Program} {n : Nat} {l : List (Nat × Value)} {own oF : List (Nat × Obj)} {ro : List Snap} {lops : List Oper} {Q : Exit → Act → World → Prop} {K : Act → World → Prop} {rest : List (Option Bool × Nat)} {i d j dj : Nat} {want : Bool} {t e : Pl} {op : Op} {ty : TypeId} {pos : String} {af : Array Edge}
theorem j_valg (ho : lops[i]? = some ⟨some d, op, ty, pos, af, some (j, want)⟩) (hj : (lops[j]?).bind (·.dst) = some dj) (hb : l.lookup dj = some (.bool want)) (hd : decide (d < n) = true) {v : Value} (hv : OpV P n l oF ro op ty v)
    (h : S (wpJ P lops.toArray oF ro K t) n ((d, v) :: l) own ro) : S (wpJ P lops.toArray oF ro K (.flt i t)) n l own ro := j_run ho (go_some rfl hj hb) rfl hd hv h
theorem j_boolg (ho : lops[i]? = some ⟨some d, op, ty, pos, af, some (j, want)⟩) (hj : (lops[j]?).bind (·.dst) = some dj) (hb : l.lookup dj = some (.bool want)) (hd : decide (d < n) = true) {b : Bool} (hv : OpV P n l oF ro op ty (.bool b))
    (h : ∀ c, c = b → S (wpJ P lops.toArray oF ro K t) n ((d, .bool c) :: l) own ro) : S (wpJ P lops.toArray oF ro K (.flt i t)) n l own ro := j_valg ho hj hb hd hv (h b rfl)
theorem j_callvg {f : FuncId} {fn : Func} {xs : Array Operand} {tys : Array TypeId} {vs : List Value} (ho : lops[i]? = some ⟨some d, .call ⟨.value (.func f), xs, tys⟩, ty, pos, af, some (j, want)⟩) (hj : (lops[j]?).bind (·.dst) = some dj) (hb : l.lookup dj = some (.bool want)) (hd : decide (d < n) = true)
    (hf : P.funcs[f]? = some fn) (hbody : (!(fn.name == "runtime.NumGoroutine") && fn.body.isSome) = true) (hx : evs l xs.toList = some vs) {v : Value}
    (hc : ∀ w, Mem w oF ro → Calls P f vs.toArray w fun e w' => e = .returned v ∧ Later w w')
    (h : S (wpJ P lops.toArray oF ro K t) n ((d, v) :: l) own ro) : S (wpJ P lops.toArray oF ro K (.flt i t)) n l own ro := fun a w ha hw => by
  have hd' : d < n := of_decide_eq_true hd
  unfold wpJ
  simp only [List.getElem?_toArray, ho]
  rw [if_pos (go_some (lops := lops) (n := n) (l := l) (o := ⟨some d, .call ⟨.value (.func f), xs, tys⟩, ty, pos, af, some (j, want)⟩) rfl hj hb a ha)]
  refine ⟨v, fun w' hw' => ?_, h _ w (ha.put v hd') hw⟩
  unfold fltAt
  rw [run_callv (c := .func f) (fst := #[]) (cap := #[]) rfl ha rfl hf hbody hx]
  have := hc w' hw'
  exact ⟨rfl, by simpa using this⟩
theorem x_turnVg {τ : Type} {f : FuncId} {fn : Func} {xs : Array Operand} {tys : Array TypeId} {vs : List Value} (V : τ → Value) (R : τ → Prop) (O : τ → List (Nat × Obj)) (ho : lops[i]? = some ⟨some d, .call ⟨.value (.func f), xs, tys⟩, ty, pos, af, some (j, want)⟩) (hj : (lops[j]?).bind (·.dst) = some dj) (hb : l.lookup dj = some (.bool want)) (hd : decide (d < n) = true)
    (hf : P.funcs[f]? = some fn) (hbody : (!(fn.name == "runtime.NumGoroutine") && fn.body.isSome) = true) (hx : evs l xs.toList = some vs)
    (hc : ∀ w, Mem w own ro → Calls P f vs.toArray w fun e w' => ∃ x, e = .returned (V x) ∧ R x ∧ Mem w' (O x) ro)
    (h : ∀ x, R x → WX P lops.toArray Q K rest n ((d, V x) :: l) (O x) ro) : WX P lops.toArray Q K ((none, i) :: rest) n l own ro := by
  intro a w ha hw
  have hd' : d < n := of_decide_eq_true hd
  have hw1 := go_some (lops := lops) (n := n) (l := l) (o := ⟨some d, .call ⟨.value (.func f), xs, tys⟩, ty, pos, af, some (j, want)⟩) rfl hj hb a ha
  simp only [wpX, List.getElem?_toArray, ho]
  intro w' hl
  rw [if_pos hw1]
  unfold Oper.wp
  have hc' : ∀ w, Mem w own ro → Calls P f ((#[] : Array Value) ++ vs.toArray ++ #[]) w fun e w' => ∃ x, e = .returned (V x) ∧ R x ∧ Mem w' (O x) ro := by simpa using hc
  rw [run_callv (fst := #[]) (cap := #[]) rfl ha rfl hf hbody hx]
  refine Calls.mono (hc' w' (hw.later hl)) fun e w2 he => ?_
  obtain ⟨x, rfl, hr, hm⟩ := he
  exact h x hr _ w2 (ha.put _ hd') hm
end
end Go.PK

namespace Go.PK
open Go Go.RowKit
structure FE where
  f : Fl
  v : Value
  S : RowS
def feC (e : FE) : List Value := flV8 e.f e.v
def goodE (ws : World) (D : Nat → Prop) (e : FE) : Prop := (e.S = none ∧ sliceRd tySb D ws e.v e.f.subs) ∨ (e.v = rowV e.S e.f.subs.length ∧ rowOK 2 e.S e.f.subs.length (e.f.subs.flatMap sbC))
def okFl (f : Fl) : Prop := f.ok ∧ ∀ s ∈ f.subs, okS s.text
theorem fl_list {D : Nat → Prop} {w : World} : ∀ {css : List (List Value)} {xs : List Fl}, css.length = xs.length → (∀ j (h1 : j < css.length) (h2 : j < xs.length), tyFl.rd D w css[j] xs[j]) → ∃ es : List FE, es.map (·.f) = xs ∧ (∀ e ∈ es, e.S = none ∧ sliceRd tySb D w e.v e.f.subs ∧ e.f.ok) ∧ css.flatten = es.flatMap feC
  | [], [], _, _ => ⟨[], rfl, fun e h => (by cases h), rfl⟩
  | c :: css, x :: xs, hl, h => by
    obtain ⟨v, h1, h2, h3⟩ := h 0 (by simp) (by simp)
    obtain ⟨es, e1, e2, e3⟩ := fl_list (css := css) (xs := xs) (by simpa using hl) (fun j h1 h2 => h (j + 1) (by simpa using h1) (by simpa using h2))
    simp only [List.getElem_cons_zero] at h1 h2 h3
    refine ⟨⟨x, v, none⟩ :: es, by rw [List.map_cons, e1], fun e he => ?_, by rw [List.flatten_cons, List.flatMap_cons, e3, h1]; rfl⟩
    rcases List.mem_cons.1 he with rfl | he
    · exact ⟨rfl, h3, h2⟩
    · exact e2 e he
theorem fl_cells {D : Nat → Prop} {w : World} {A : Option Addr} {cp : Nat} {xs : List Fl} (h : sliceRd tyFl D w (.slice A xs.length cp) xs) (hne : xs ≠ []) : ∃ b o, ∃ es : List FE, A = some ⟨b, o, none⟩ ∧ D b ∧ es.map (·.f) = xs ∧ (∀ e ∈ es, e.S = none ∧ sliceRd tySb D w e.v e.f.subs ∧ e.f.ok) ∧ ∀ j (hj : j < (es.flatMap feC).length), w.cell? ⟨b, o + j, none⟩ = some (es.flatMap feC)[j] := by
  obtain ⟨css, h1, _, _, h4, _, h6, h7⟩ := h.cells
  obtain ⟨es, e1, e2, e3⟩ := fl_list h1 h4
  obtain ⟨b, o, hA, hD, _⟩ := h7 (List.length_pos_iff.2 hne)
  refine ⟨b, o, es, hA, hD, e1, e2, fun j hj => ?_⟩
  have h9 := h6 ⟨b, o, none⟩ hA j _ (by rw [e3]; exact List.getElem?_eq_getElem hj)
  have e9 : (⟨b, o, none⟩ : Addr).add j = ⟨b, o + j, none⟩ := by unfold Addr.add; split <;> simp_all
  rwa [e9] at h9
theorem sb_cells {D : Nat → Prop} {w : World} {A : Option Addr} {cp : Nat} {xs : List Sb} (h : sliceRd tySb D w (.slice A xs.length cp) xs) (hne : xs ≠ []) : ∃ b o, A = some ⟨b, o, none⟩ ∧ D b ∧ (∀ s ∈ xs, okS s.text) ∧ ∀ j (hj : j < (xs.flatMap sbC).length), w.cell? ⟨b, o + j, none⟩ = some (xs.flatMap sbC)[j] := by
  obtain ⟨css, h1, _, _, h4, _, h6, h7⟩ := h.cells
  obtain ⟨e3, e4⟩ := tySb_cells h1 h4
  obtain ⟨b, o, hA, hD, _⟩ := h7 (List.length_pos_iff.2 hne)
  refine ⟨b, o, hA, hD, e4, fun j hj => ?_⟩
  have h9 := h6 ⟨b, o, none⟩ hA j _ (by rw [e3]; exact List.getElem?_eq_getElem hj)
  have e9 : (⟨b, o, none⟩ : Addr).add j = ⟨b, o + j, none⟩ := by unfold Addr.add; split <;> simp_all
  rwa [e9] at h9
theorem sl_one {α : Type} {T : Ty α} {D : Nat → Prop} {w : World} {v : Value} {xs : List α} (h : sliceRd T D w v xs) : v.oneCell' = true := by
  obtain ⟨A, c, rfl, _⟩ := h; rfl
theorem goodE_one {ws : World} {D : Nat → Prop} {e : FE} (h : goodE ws D e) : e.v.oneCell' = true := by
  rcases h with ⟨_, h⟩ | ⟨h, _⟩
  · exact sl_one h
  · rw [h]; cases e.S <;> rfl
theorem feC_one {ws : World} {D : Nat → Prop} {es : List FE} (h : ∀ e ∈ es, goodE ws D e) : (es.flatMap feC).all (fun u => u.oneCell') = true := by
  rw [List.all_eq_true]
  intro u hu
  obtain ⟨e, he, hu⟩ := List.mem_flatMap.1 hu
  simp only [feC, flV8, List.mem_cons, List.mem_nil_iff, or_false] at hu
  rcases hu with rfl | rfl | rfl | rfl
  · rfl
  · rfl
  · rfl
  · exact goodE_one (h e he)
theorem srow_rd {T : TypeId} {own : List (Nat × Obj)} {ro : List Snap} {w : World} {D : Nat → Prop} {S : RowS} {xs : List Sb} (hr : rowOK 2 S xs.length (xs.flatMap sbC)) (hok : ∀ s ∈ xs, okS s.text) (hm : Mem w own ro) (hin : ∀ p ∈ rowO T S, p ∈ own) (hD : ∀ p ∈ rowO T S, D p.1) : sliceRd tySb D w (rowV S xs.length) xs := by
  have h : RowT tySb (fun _ => False) w S xs := ⟨xs.map sbC, by simp, by rw [← List.flatMap_def]; exact hr, fun j a1 a2 => by
    rw [List.getElem_map]; exact ⟨rfl, hok _ (List.getElem_mem a2)⟩⟩
  exact h.rd hm hin (fun _ hx => hx.elim) hD rfl
theorem goodE.rd {T : TypeId} {own : List (Nat × Obj)} {ro : List Snap} {w ws : World} {D D' : Nat → Prop} {e : FE} (h : goodE ws D e) (hok : okFl e.f) (hm : Mem w own ro) (hsn : (ws, D) ∈ ro) (hin : ∀ p ∈ rowO T e.S, p ∈ own) (h1 : ∀ k, D k → k < ws.heap.size → D' k) (h2 : ∀ p ∈ rowO T e.S, D' p.1) : sliceRd tySb D' w e.v e.f.subs := by
  rcases h with ⟨_, h⟩ | ⟨hv, h⟩
  · exact h.keep fun k hk hlt => ⟨h1 k hk hlt, hm.ro_at _ hsn k hk hlt⟩
  · rw [hv]; exact srow_rd h hok.2 hm hin h2
theorem fe_rd {TF T : TypeId} {own : List (Nat × Obj)} {ro : List Snap} {w ws : World} {D D' : Nat → Prop} {es : List FE} {C : RowS} (hm : Mem w own ro) (hsn : (ws, D) ∈ ro) (hC : rowOK 4 C es.length (es.flatMap feC)) (hg : ∀ e ∈ es, goodE ws D e ∧ okFl e.f) (hin : ∀ p ∈ rowO TF C, p ∈ own) (hinE : ∀ e ∈ es, ∀ p ∈ rowO T e.S, p ∈ own)
    (h1 : ∀ k, D k → k < ws.heap.size → D' k) (h2 : ∀ e ∈ es, ∀ p ∈ rowO T e.S, D' p.1) (h3 : ∀ p ∈ rowO TF C, D' p.1) : sliceRd tyFl D' w (rowV C es.length) (es.map (·.f)) := by
  have h : RowT tyFl D' w C (es.map (·.f)) := ⟨es.map feC, by simp, by rw [← List.flatMap_def, List.length_map]; exact hC, fun j a1 a2 => by
    have a3 : j < es.length := by simpa using a1
    rw [List.getElem_map, List.getElem_map]
    have he := List.getElem_mem a3
    obtain ⟨g1, g2⟩ := hg _ he
    exact ⟨es[j].v, rfl, g2.1, g1.rd g2 hm hsn (hinE _ he) h1 (h2 _ he)⟩⟩
  exact h.rd hm hin (fun _ h => h) h3 (by simp)
theorem putS_at {c : UInt8} {t : ByteArray} {b : Bool} {l : List Sb} {i : Nat} (h : subI c l = (i : Nat)) : putS c t b l = l.set i ⟨c, t⟩ := by
  unfold putS
  rw [if_pos (by omega), h, Int.toNat_natCast]
theorem putS_front {c : UInt8} {t : ByteArray} {l : List Sb} (h : ¬0 ≤ subI c l) : putS c t true l = ⟨c, t⟩ :: l := by
  unfold putS
  rw [if_neg h, if_pos rfl]
theorem putS_back {c : UInt8} {t : ByteArray} {l : List Sb} (h : ¬0 ≤ subI c l) : putS c t false l = l ++ [⟨c, t⟩] := by
  unfold putS
  rw [if_neg h]; rfl
theorem putS_len {c : UInt8} {t : ByteArray} {b : Bool} {l : List Sb} : (putS c t b l).length ≤ l.length + 1 := by
  unfold putS
  split
  · rw [List.length_set]; omega
  · split
    · exact Nat.le_refl _
    · rw [List.length_append]; exact Nat.le_refl _
theorem putS_mem {c : UInt8} {t : ByteArray} {b : Bool} {l : List Sb} {s : Sb} (h : s ∈ putS c t b l) : s ∈ l ∨ s = ⟨c, t⟩ := by
  unfold putS at h
  split at h
  · exact List.mem_or_eq_of_mem_set h
  · split at h
    · rcases List.mem_cons.1 h with rfl | h
      · exact .inr rfl
      · exact .inl h
    · rcases List.mem_append.1 h with h | h
      · exact .inl h
      · exact .inr (List.mem_singleton.1 h)
end Go.PK

namespace Go.PK
open Go Go.RowKit
theorem row_put {α : Type} {c : α → List Value} {m g cp : Nat} {cs : List Value} {xs : List α} (hc : ∀ x, (c x).length = m) (h : rowOK m (some (g, cs, cp)) xs.length (xs.flatMap c)) {i : Nat} (hi : i < xs.length) (x : α) : rowOK m (some (g, cs.take (i * m) ++ c x ++ cs.drop (i * m + m), cp)) (xs.set i x).length ((xs.set i x).flatMap c) := by
  obtain ⟨h1, h2, h3, h4, h5⟩ := h
  dsimp only at h2 h4 h5
  have him : i * m + m ≤ xs.length * m := by
    have := Nat.mul_le_mul_right m hi
    rw [Nat.succ_mul] at this; exact this
  have hcp : xs.length * m ≤ cs.length := by rw [h4]; exact Nat.mul_le_mul_right m h2
  have hl1 : (cs.take (i * m)).length = i * m := by rw [List.length_take]; omega
  have e1 : cs.take (i * m) = (xs.take i).flatMap c := by rw [← flC_take hc, ← h5, List.take_take, Nat.min_eq_left (by omega)]
  have e2 : (cs.drop (i * m + m)).take ((xs.length - (i + 1)) * m) = (xs.drop (i + 1)).flatMap c := by
    rw [← flC_drop hc, ← h5, List.drop_take, Nat.succ_mul, Nat.sub_mul, Nat.succ_mul]
  have hset : (xs.set i x).flatMap c = (xs.take i).flatMap c ++ (c x ++ (xs.drop (i + 1)).flatMap c) := by
    rw [List.set_eq_take_append_cons_drop, if_pos hi, List.flatMap_append, List.flatMap_cons]
  refine ⟨by rw [flC_len hc], by rw [List.length_set]; exact h2, h3, ?_, ?_⟩
  · dsimp only
    rw [List.length_append, List.length_append, hl1, hc, List.length_drop]; omega
  · dsimp only
    have t1 : ∀ (A B C : List Value) (N a b : Nat), A.length = a → B.length = b → a + b ≤ N → (A ++ (B ++ C)).take N = A ++ (B ++ C.take (N - a - b)) := fun A B C N a b h1 h2 h3 => by
      rw [List.take_append, List.take_of_length_le (by omega), List.take_append, List.take_of_length_le (by omega), h1, h2]
    rw [List.length_set, hset, ← e1, ← e2, List.append_assoc, t1 _ _ _ _ _ _ hl1 (hc x) him]
    congr 4
    rw [Nat.sub_mul, Nat.succ_mul]
    omega
theorem rw_step {fs : List Fl} {es : List FE} {k : Nat} {g : Fl → Fl} (h : es.map (·.f) = (fs.take k).map g ++ fs.drop k) (hk : k < fs.length) (hk2 : k < es.length) : es[k].f = fs[k] ∧ (g fs[k] = fs[k] → es.map (·.f) = (fs.take (k + 1)).map g ++ fs.drop (k + 1)) ∧ ∀ e', e'.f = g fs[k] → (es.set k e').map (·.f) = (fs.take (k + 1)).map g ++ fs.drop (k + 1) := by
  have hl : ((fs.take k).map g).length = k := by rw [List.length_map, List.length_take]; omega
  have hd : fs.drop k = fs[k] :: fs.drop (k + 1) := List.drop_eq_getElem_cons hk
  have e1 : es[k].f = fs[k] := by
    have : (es.map (·.f))[k]? = some fs[k] := by rw [h, List.getElem?_append_right (by omega), hl, Nat.sub_self, hd]; rfl
    rw [List.getElem?_map, List.getElem?_eq_getElem hk2] at this
    exact Option.some.inj this
  have e2 : (fs.take (k + 1)).map g = (fs.take k).map g ++ [g fs[k]] := by rw [List.take_succ_eq_append_getElem hk, List.map_append]; rfl
  refine ⟨e1, fun hg => by rw [h, e2, hg, hd, List.append_assoc]; rfl, fun e' he => ?_⟩
  rw [List.map_set, h, e2, he, hd, List.set_append_right _ _ (by omega), hl, Nat.sub_self, List.append_assoc]; rfl
theorem leastB_mem {p : HG → Bool} {l : List HG} (hp : ∀ h ∈ l, 1 ≤ h.id) (h0 : leastB p l ≠ 0) : ∃ h ∈ l, h.id = leastB p l := by
  rcases leastB_is p l hp with ⟨h, _⟩ | ⟨⟨h, hh, _, hi⟩, _⟩
  · exact absurd h h0
  · exact ⟨h, hh, hi⟩
theorem findF_look {hs : List HG} (ha : Acy hs) {t : ByteArray} (h : (findF hs t).2 = true) : (lkH hs (findF hs t).1).isSome = true := by
  have hp : ∀ h ∈ hs, 1 ≤ h.id := fun h hh => (ha.pos h hh).1
  unfold findF at h ⊢
  split at h
  · cases h
  · rename_i hs0
    rw [if_neg hs0]
    have h0 : findT hs (foldS t) ≠ 0 := of_decide_eq_true h
    have : ∃ g ∈ hs, g.id = findT hs (foldS t) := by
      unfold findT at h0 ⊢
      split at h0
      · rename_i h1; rw [if_pos h1]; exact leastB_mem hp h0
      · rename_i h1; rw [if_neg h1]; exact leastB_mem hp h0
    obtain ⟨g, hg, he⟩ := this
    dsimp only
    rw [← he, lkH_of ha.ids hg]; rfl
theorem numH_look {hs : List HG} (ha : Acy hs) {t : ByteArray} {id : Int} (h : numH hs t = some id) : (lkH hs id).isSome = true := by
  unfold numH at h
  obtain ⟨g, hg, rfl⟩ := Option.map_eq_some_iff.1 h
  rw [lkH_of ha.ids (List.mem_of_find?_eq_some hg)]; rfl
theorem hdF_look {hs : List HG} (ha : Acy hs) {l : List Sb} (h : (hdF hs l).2 = true) : (lkH hs (hdF hs l).1).isSome = true := by
  unfold hdF at h ⊢
  cases hq : (if 0 ≤ subI 48 l then numH hs (txtI l (subI 48 l)) else none) with
  | some id =>
    split at hq
    · exact numH_look ha hq
    · cases hq
  | none =>
    rw [hq] at h
    dsimp only at h ⊢
    split at h
    · rename_i h1; rw [if_pos h1]; exact findF_look ha h
    · cases h
theorem rewX_no {hs : List HG} {ttl : ByteArray} {f : Fl} (h : ¬(amg ruledL f.tag = true ∧ (hdF hs f.subs).2 = true)) : rewX hs ttl f = f := by unfold rewX; rw [if_neg h]
theorem rewX_yes {hs : List HG} {ttl : ByteArray} {f : Fl} (h1 : amg ruledL f.tag = true) (h2 : (hdF hs f.subs).2 = true) : rewX hs ttl f = { f with subs := rewS hs (resF hs (wordsP ttl) (hdF hs f.subs).1) f.subs } := by unfold rewX; rw [if_pos ⟨h1, h2⟩]
def EOs (T : TypeId) (es : List FE) : List (Nat × Obj) := es.flatMap fun e => rowO T e.S
theorem EO_set {T : TypeId} {es : List FE} {k : Nat} (hk : k < es.length) (h0 : es[k].S = none) (e' : FE) : (EOs T (es.set k e')).Perm (rowO T e'.S ++ EOs T es) := by
  have e1 : es = es.take k ++ es[k] :: es.drop (k + 1) := by rw [List.getElem_cons_drop, List.take_append_drop]
  have h1 : EOs T es = EOs T (es.take k) ++ EOs T (es.drop (k + 1)) := by
    unfold EOs
    conv => lhs; rw [e1]
    rw [List.flatMap_append, List.flatMap_cons, h0]; rfl
  have h2 : EOs T (es.set k e') = EOs T (es.take k) ++ (rowO T e'.S ++ EOs T (es.drop (k + 1))) := by
    unfold EOs
    rw [List.set_eq_take_append_cons_drop, if_pos hk, List.flatMap_append, List.flatMap_cons]
  rw [h1, h2, ← List.append_assoc, ← List.append_assoc]
  exact List.perm_append_comm.append_right _
theorem EO_none {T : TypeId} {es : List FE} (h : ∀ e ∈ es, e.S = none) : EOs T es = [] := by
  unfold EOs
  rw [List.flatMap_eq_nil_iff]
  intro e he
  rw [h e he]; rfl
theorem EO_mem {T : TypeId} {es : List FE} {e : FE} (he : e ∈ es) {p : Nat × Obj} (hp : p ∈ rowO T e.S) : p ∈ EOs T es := List.mem_flatMap.2 ⟨e, he, hp⟩
end Go.PK

namespace Go.PK
open Go Go.RowKit
end Go.PK

namespace Go.PK
open Go Go.RowKit
theorem runesF_le (s : ByteArray) : ∀ (n i : Nat), ∀ c ∈ runesF s n i, c ≤ 2147483647
  | 0, i, c, h => by cases h
  | n + 1, i, c, h => by
    unfold runesF at h
    split at h
    · rcases List.mem_cons.1 h with rfl | h
      · exact decode_le _ _
      · exact runesF_le s n _ c h
    · cases h
theorem runes_le (s : ByteArray) : ∀ c ∈ runes s, c ≤ 2147483647 := runesF_le s _ _
theorem wf_stop {w : ByteArray} : wordsF [] w = if w.size = 0 then [] else [w] := by unfold wordsF; rfl
theorem wf_go {c : Nat} {r : List Nat} {w : ByteArray} (h : foldC c ≠ spcB) : wordsF (c :: r) w = wordsF r (w ++ foldC c) := by rw [wordsF, if_neg h]
theorem wf_cut {c : Nat} {r : List Nat} {w : ByteArray} (h : foldC c = spcB) (hw : w.size ≠ 0) : wordsF (c :: r) w = w :: wordsF r ⟨#[]⟩ := by rw [wordsF, if_pos h, if_neg hw]
theorem wf_blank {c : Nat} {r : List Nat} {w : ByteArray} (h : foldC c = spcB) (hw : w.size = 0) : wordsF (c :: r) w = wordsF r ⟨#[]⟩ := by rw [wordsF, if_pos h, if_pos hw]
theorem joinS_snoc : ∀ (l : List ByteArray) (a : ByteArray), joinS (l ++ [a]) = if l = [] then a else joinS l ++ spcB ++ a
  | [], a => by rw [List.nil_append, if_pos rfl]; rfl
  | [x], a => by rw [if_neg (by simp)]; rfl
  | x :: y :: l, a => by
    have h := joinS_snoc (y :: l) a
    rw [if_neg (by simp)] at h ⊢
    show x ++ spcB ++ joinS ((y :: l) ++ [a]) = (x ++ spcB ++ joinS (y :: l)) ++ spcB ++ a
    rw [h]
    simp only [ByteArray.append_assoc]
end Go.PK

namespace Go.PK
open Go Go.RowKit
def midF (fs : List FD) (x : FD) (k : Nat) : List FD := fs.take k ++ x :: fs.drop k
theorem midF_len {fs : List FD} {x : FD} {k : Nat} (hk : k ≤ fs.length) : (midF fs x k).length = fs.length + 1 := by
  unfold midF
  rw [List.length_append, List.length_cons, List.length_take, List.length_drop]; omega
theorem midF_all (fs : List FD) (x : FD) : midF fs x fs.length = fs ++ [x] := by
  unfold midF
  rw [List.take_length, List.drop_length]
theorem midF_succ {fs : List FD} {x : FD} {j : Nat} (h : j < fs.length) : midF fs x (j + 1) = fs.take j ++ fs[j] :: x :: fs.drop (j + 1) := by
  unfold midF
  rw [List.take_succ_eq_append_getElem h, List.append_assoc]; rfl
theorem midF_at {fs : List FD} {x : FD} {j : Nat} (h : j < fs.length) : (midF fs x (j + 1))[j + 1]? = some x ∧ (midF fs x (j + 1))[j]? = some fs[j] := by
  have hl : (fs.take j).length = j := by rw [List.length_take]; omega
  rw [midF_succ h]
  constructor
  · rw [List.getElem?_append_right (by omega), hl, show j + 1 - j = 1 by omega]; rfl
  · rw [List.getElem?_append_right (by omega), hl, Nat.sub_self]; rfl
theorem midF_move {fs : List FD} {x : FD} {j : Nat} (h : j < fs.length) : ((midF fs x (j + 1)).set (j + 1) fs[j]).set j x = midF fs x j := by
  have hl : (fs.take j).length = j := by rw [List.length_take]; omega
  rw [midF_succ h, List.set_append_right _ _ (by omega), hl, show j + 1 - j = 1 by omega, List.set_append_right _ _ (by omega), hl, Nat.sub_self]
  show fs.take j ++ x :: fs[j] :: fs.drop (j + 1) = _
  unfold midF
  rw [List.getElem_cons_drop]
theorem midF_ins {fs : List FD} {x : FD} (hs : srtF8 fs) (hn : ∀ y ∈ fs, ¬(y.num = x.num ∧ y.ag = x.ag)) {k : Nat} (hk : k ≤ fs.length) (h1 : ∀ j (hj : j < fs.length), k ≤ j → befF x fs[j]) (h2 : ∀ j (hj : j < fs.length), j + 1 = k → ¬befF x fs[j]) : midF fs x k = insF fs x := by
  have hb : ∀ i (hi : i < fs.length), i < k → befF fs[i] x := by
    cases k with
    | zero => intro i hi h; omega
    | succ m =>
      have hm : m < fs.length := by omega
      have hbm : befF fs[m] x := (befF_or (hn _ (List.getElem_mem hm))).resolve_right (h2 m hm rfl)
      intro i hi h
      rcases Nat.lt_or_eq_of_le (Nat.le_of_lt_succ h) with h3 | rfl
      · exact befF_trans (List.pairwise_iff_getElem.1 hs i m hi hm h3) hbm
      · exact hbm
  have := insF_at (l := fs) (x := x) hk hb fun i hi hki hbe => absurd (befF_trans hbe (h1 i hi hki)) befF_irr
  rw [this]; rfl
end Go.PK

namespace Go.PK
open Go Go.RowKit
theorem itoaS_small {n : Int} (h0 : 0 ≤ n) (h : n < 10) : itoaS n = ⟨#[UInt8.ofNat (48 + (n % 10).toNat)]⟩ := by
  apply bl_inj
  rw [itoaS_nn h0, dec_small (by omega), show (n % 10).toNat = n.toNat by omega]; rfl
theorem itoaS_big {n : Int} (h : 10 ≤ n) : itoaS n = itoaS (n / 10) ++ ⟨#[UInt8.ofNat (48 + (n % 10).toNat)]⟩ := by
  apply bl_inj
  rw [bl_app, itoaS_nn (by omega), itoaS_nn (by omega), dec_big (by omega), show n.toNat / 10 = (n / 10).toNat by omega, show n.toNat % 10 = (n % 10).toNat by omega]; rfl
end Go.PK

namespace Go.PK
open Go Go.RowKit
theorem set_mid {α : Type} {cs : List α} {p m f : Nat} {v : α} (hf : f < m) (hl : p + m ≤ cs.length) : cs.take (p + f) ++ [v] ++ cs.drop (p + f + 1) = cs.take p ++ (((cs.drop p).take m).set f v) ++ cs.drop (p + m) := by
  have h1 : cs.take (p + f) ++ [v] ++ cs.drop (p + f + 1) = cs.set (p + f) v := by
    rw [List.set_eq_take_append_cons_drop, if_pos (by omega), List.append_assoc]; rfl
  have h2 : cs = cs.take p ++ ((cs.drop p).take m ++ cs.drop (p + m)) := by
    rw [← List.drop_drop, List.take_append_drop, List.take_append_drop]
  have l1 : (cs.take p).length = p := by rw [List.length_take]; omega
  have l2 : ((cs.drop p).take m).length = m := by rw [List.length_take, List.length_drop]; omega
  rw [h1]
  conv => lhs; rw [h2]
  rw [List.set_append_right _ _ (by omega), l1, show p + f - p = f by omega, List.set_append_left _ _ (by omega), List.append_assoc]
theorem row_fld {α : Type} {c : α → List Value} {m g cp : Nat} {cs : List Value} {xs : List α} (hc : ∀ x, (c x).length = m) (h : rowOK m (some (g, cs, cp)) xs.length (xs.flatMap c)) {i f : Nat} (hi : i < xs.length) (hf : f < m) {v : Value} {x : α} (hx : c x = (c xs[i]).set f v) : rowOK m (some (g, cs.take (i * m + f) ++ [v] ++ cs.drop (i * m + f + 1), cp)) (xs.set i x).length ((xs.set i x).flatMap c) := by
  have h1 := row_put hc h hi x
  obtain ⟨_, h2, _, h4, h5⟩ := h
  dsimp only at h2 h4 h5
  have him : i * m + m ≤ xs.length * m := by
    have := Nat.mul_le_mul_right m hi
    rw [Nat.succ_mul] at this; exact this
  have hcp : xs.length * m ≤ cs.length := by rw [h4]; exact Nat.mul_le_mul_right m h2
  have e : (cs.drop (i * m)).take m = c xs[i] := by
    apply List.ext_getElem?
    intro j
    by_cases hj : j < m
    · rw [List.getElem?_take_of_lt hj, List.getElem?_drop, ← List.getElem?_take_of_lt (show i * m + j < xs.length * m by omega), h5]
      exact flC_get' hc xs i j hi hj
    · rw [List.getElem?_take, if_neg hj, List.getElem?_eq_none (by rw [hc]; omega)]
  rw [set_mid hf (by omega), e, ← hx]
  exact h1
end Go.PK

namespace Go.PK
open Go Go.RowKit
def anyN8 (f : Int → Option Bool) : List Int → Option Bool
  | [] => some false
  | c :: l => match f c, anyN8 f l with | some x, some y => some (x || y) | _, _ => none
def rchN (hs : List HG) (t : Int) : Nat → Int → Option Bool
  | 0, _ => none
  | n + 1, id => if id = t then some true else match lkH hs id with | none => some false | some h => anyN8 (fun c => rchN hs t n c) (edges h)
def accN (n : Nat) (hs : List HG) (x : FD) : Option (Option (List HG)) :=
  match lkH hs x.hd with
  | none => some (if x.kind = 1 then some (hs ++ [⟨x.hd, x.txt, [], [], 0⟩]) else none)
  | some h =>
    if x.kind = 1 then some none
    else if h.into ≠ 0 then some none
    else if x.kind = 2 then some (some (setH hs { h with name := x.txt, oth := h.oth ++ [h.name] }))
    else if x.kind = 3 then some (some (setH hs { h with oth := h.oth ++ [x.txt] }))
    else match lkH hs x.to with
      | none => some none
      | some _ => match rchN hs x.hd n x.to with
        | none => none
        | some true => some none
        | some false => some (some (if x.kind = 4 then setH hs { h with into := x.to } else setH hs { h with spl := h.spl ++ [(foldS x.txt, x.to)] }))
def stN (n : Nat) : List FD → SG8 → Option SG8
  | [], s => some s
  | x :: l, s => match accN n s.hs x with | none => none | some none => stN n l ⟨s.hs, s.ref ++ [x]⟩ | some (some hs) => stN n l ⟨hs, s.ref⟩
def resN8 (hs : List HG) (ws : List ByteArray) : Nat → Int → Option Int
  | 0, _ => none
  | n + 1, id => match lkH hs id with | none => none | some h => if stepR ws h = 0 then some id else resN8 hs ws n (stepR ws h)
theorem anyN8_is {f : Int → Option Bool} {g : Int → Bool} (hfg : ∀ c b, f c = some b → g c = b) : ∀ (l : List Int) (b : Bool), anyN8 f l = some b → l.any g = b
  | [], b, h => by injection h
  | c :: l, b, h => by
    unfold anyN8 at h
    cases h1 : f c with
    | none => rw [h1] at h; cases h
    | some x =>
      cases h2 : anyN8 f l with
      | none => rw [h1, h2] at h; cases h
      | some y =>
        rw [h1, h2] at h
        injection h with h
        rw [List.any_cons, hfg c x h1, anyN8_is hfg l y h2, h]
theorem rchN_is {hs : List HG} {t : Int} : ∀ (n : Nat) (id : Int) (b : Bool), rchN hs t n id = some b → rchB hs t id = b
  | 0, _, _, h => by cases h
  | n + 1, id, b, h => by
    unfold rchN at h
    by_cases h0 : id = t
    · rw [if_pos h0] at h
      injection h with h
      rw [h0, rchB_here, h]
    · rw [if_neg h0] at h
      cases hl : lkH hs id with
      | none =>
        rw [hl] at h
        injection h with h
        rw [← h]
        refine rchB_no.2 fun hr => ?_
        rcases RchH.iff.1 hr with h1 | ⟨g, h1, _⟩
        · exact h0 h1
        · rw [hl] at h1; cases h1
      | some g =>
        rw [hl] at h
        rw [rchB_step hl h0]
        exact anyN8_is (fun c b hb => rchN_is n c b hb) _ _ h
theorem accN_is {n : Nat} {hs : List HG} {x : FD} {r : Option (List HG)} (h : accN n hs x = some r) : accS hs x = r := by
  unfold accN at h
  unfold accS
  cases hl : lkH hs x.hd with
  | none => rw [hl] at h; injection h with h
  | some g =>
    rw [hl] at h
    dsimp only at h ⊢
    by_cases h1 : x.kind = 1
    · rw [if_pos h1] at h ⊢; injection h with h
    rw [if_neg h1] at h ⊢
    by_cases h2 : g.into ≠ 0
    · rw [if_pos h2] at h ⊢; injection h with h
    rw [if_neg h2] at h ⊢
    by_cases h3 : x.kind = 2
    · rw [if_pos h3] at h ⊢; injection h with h
    rw [if_neg h3] at h ⊢
    by_cases h4 : x.kind = 3
    · rw [if_pos h4] at h ⊢; injection h with h
    rw [if_neg h4] at h ⊢
    cases ht : lkH hs x.to with
    | none =>
      rw [ht] at h
      rw [if_pos rfl]; injection h with h
    | some g2 =>
      rw [ht] at h
      rw [if_neg (fun h => by cases h)]
      dsimp only at h
      cases hr : rchN hs x.hd n x.to with
      | none => rw [hr] at h; cases h
      | some b =>
        rw [hr] at h
        have hb := rchN_is n x.to b hr
        cases b with
        | true => rw [if_pos (rchB_iff.1 hb)]; injection h with h
        | false =>
          rw [if_neg (rchB_no.1 hb)]
          injection h with h
          rw [← h]
          by_cases h5 : x.kind = 4
          · rw [if_pos h5, if_pos h5]
          · rw [if_neg h5, if_neg h5]
theorem stN_is {n : Nat} : ∀ (l : List FD) (s r : SG8), stN n l s = some r → l.foldl applyS s = r
  | [], s, r, h => by injection h
  | x :: l, s, r, h => by
    unfold stN at h
    rw [List.foldl_cons]
    cases ha : accN n s.hs x with
    | none => rw [ha] at h; cases h
    | some o =>
      rw [ha] at h
      have h1 := accN_is ha
      cases o with
      | none =>
        rw [show applyS s x = ⟨s.hs, s.ref ++ [x]⟩ by unfold applyS; rw [h1]]
        exact stN_is l _ r h
      | some hs =>
        rw [show applyS s x = ⟨hs, s.ref⟩ by unfold applyS; rw [h1]]
        exact stN_is l _ r h
theorem stF_of {n : Nat} {l : List FD} {r : SG8} (h : stN n l ⟨[], []⟩ = some r) : stF l = r := stN_is l _ r h
theorem resN8_is {hs : List HG} {ws : List ByteArray} : ∀ (n : Nat) (id e : Int), resN8 hs ws n id = some e → ∃ m, EndsN hs ws m id e
  | 0, _, _, h => by cases h
  | n + 1, id, e, h => by
    unfold resN8 at h
    cases hl : lkH hs id with
    | none => rw [hl] at h; cases h
    | some g =>
      rw [hl] at h
      dsimp only at h
      by_cases h0 : stepR ws g = 0
      · rw [if_pos h0] at h
        injection h with h
        subst h
        exact ⟨0, .stop hl h0⟩
      · rw [if_neg h0] at h
        obtain ⟨m, hm⟩ := resN8_is n _ _ h
        exact ⟨m + 1, .go hl h0 hm⟩
theorem resolve_of {hs : List HG} {ws : List ByteArray} {n : Nat} {id e : Int} (h : resN8 hs ws n id = some e) : resolveF hs ws id = (e, true) ∧ resF hs ws id = e := by
  obtain ⟨m, hm⟩ := resN8_is n id e h
  refine ⟨?_, hm.res⟩
  obtain ⟨g, hg⟩ := hm.look
  unfold resolveF
  rw [hg]
  show (resF hs ws id, true) = _
  rw [hm.res]
def takeAll (l : List FD) : List FD := l.foldl (fun a f => (takeF a f).2) []
theorem takeAll_snoc (l : List FD) (f : FD) : takeAll (l ++ [f]) = (takeF (takeAll l) f).2 := by
  unfold takeAll
  rw [List.foldl_append]; rfl
theorem takeAll_ok (l : List FD) : FsOK (takeAll l) := by
  refine snocRec (motive := fun l => FsOK (takeAll l)) FsOK.nil (fun l a h => ?_) l
  rw [takeAll_snoc]
  exact h.take a
def T8a : ByteArray := ⟨#[67, 108, 101, 109, 101, 110, 115, 44, 32, 83, 97, 109, 117, 101, 108]⟩
def T8b : ByteArray := ⟨#[84, 119, 97, 105, 110, 44, 32, 77, 97, 114, 107]⟩
def T8c : ByteArray := ⟨#[84, 119, 97, 105, 110, 44, 32, 77, 46]⟩
def T8d : ByteArray := ⟨#[84, 119, 97, 105, 110, 44, 32, 77, 97, 114, 107, 32, 40, 109, 117, 115, 105, 99, 41]⟩
def T8e : ByteArray := ⟨#[83, 111, 110, 103, 115]⟩
def exF : List FD := [⟨1, 1, 1, 1, 0, T8a⟩, ⟨1, 2, 1, 2, 0, T8b⟩, ⟨1, 3, 3, 2, 0, T8c⟩, ⟨1, 4, 4, 1, 2, ⟨#[]⟩⟩, ⟨1, 5, 1, 3, 0, T8d⟩, ⟨1, 6, 5, 2, 3, T8e⟩]
def ex7 : FD := ⟨1, 7, 4, 3, 1, ⟨#[]⟩⟩
def hs8 : List HG := [⟨1, T8a, [], [], 2⟩, ⟨2, T8b, [T8c], [(⟨#[115, 111, 110, 103, 115]⟩, 3)], 0⟩, ⟨3, T8d, [], [], 0⟩]
theorem ex_st : stN 9 exF ⟨[], []⟩ = some ⟨hs8, []⟩ := by kernel_rfl
theorem ex_all : takeAll exF = exF := by kernel_rfl
theorem ex_take7 : takeF exF ex7 = (0, exF ++ [ex7]) := by kernel_rfl
theorem ex_st7 : stN 9 (exF ++ [ex7]) ⟨[], []⟩ = some ⟨hs8, [ex7]⟩ := by kernel_rfl
theorem ex_find : findF hs8 ⟨#[67, 76, 69, 77, 69, 78, 83, 44, 32, 83, 97, 109, 117, 101, 108]⟩ = (1, true) := by kernel_rfl
theorem ex_r1 : resN8 hs8 (wordsP ⟨#[84, 111, 109, 32, 83, 97, 119, 121, 101, 114]⟩) 9 1 = some 2 := by kernel_rfl
theorem ex_r2 : resN8 hs8 (wordsP ⟨#[79, 108, 100, 32, 115, 111, 110, 103, 115]⟩) 9 1 = some 3 := by kernel_rfl
end Go.PK

namespace Go.PK
open Go Go.RowKit
def kindL : List Int := [1, 1, 2, 3, 4, 4, 5, 5, 1]
def nameL : List ByteArray := [T8b, ⟨#[116, 119, 97, 105, 110, 32, 109, 97, 114, 107]⟩, ⟨#[67, 108, 101, 109, 101, 110, 115]⟩, ⟨#[69, 108, 105, 111, 116, 44, 32, 71, 101, 111, 114, 103, 101]⟩, ⟨#[195, 137, 118, 97, 110, 115]⟩, T8e, ⟨#[109, 117, 115, 105, 99]⟩, ⟨#[90, 111, 108, 97]⟩, ⟨#[84, 119, 97, 105, 110]⟩, ⟨#[111, 102]⟩]
def splL : List ByteArray := [⟨#[115, 111, 110, 103, 115]⟩, ⟨#[77, 117, 115, 105, 99]⟩, ⟨#[79, 70]⟩, ⟨#[116, 111, 109]⟩]
def feed0 (k : Nat) (q0 q1 q2 q3 : Int) : FD := ⟨1 + q3 % 3, 1 + k + q3.tdiv 3 % 4, kindL.getD (q0 % 9).toNat 0, 1 + q1 % 8, 0, nameL.getD (q2 % 10).toNat ⟨#[]⟩⟩
def feedA (k : Nat) (q0 q1 q2 q3 : Int) : FD := if (feed0 k q0 q1 q2 q3).kind = 4 ∨ (feed0 k q0 q1 q2 q3).kind = 5 then { feed0 k q0 q1 q2 q3 with to := 1 + q2 % 8, txt := ⟨#[]⟩ } else feed0 k q0 q1 q2 q3
def feedC (k : Nat) (q0 q1 q2 q3 : Int) : FD := if (feedA k q0 q1 q2 q3).kind = 5 then { feedA k q0 q1 q2 q3 with txt := splL.getD (q2.tdiv 8 % 4).toNat ⟨#[]⟩ } else feedA k q0 q1 q2 q3
def feedQ (k : Nat) (q : List Int) : FD := feedC k (q.getD 0 0) (q.getD 1 0) (q.getD 2 0) (q.getD 3 0)
def feedsF (l : List (List Int)) : List FD := (l.take 60).mapIdx feedQ
theorem feedsF_len (l : List (List Int)) : (feedsF l).length = min 60 l.length := by unfold feedsF; rw [List.length_mapIdx, List.length_take]
theorem feedsF_at {l : List (List Int)} {k : Nat} (h : k < l.length) (h6 : k < 60) : (feedsF l)[k]'(by rw [feedsF_len]; omega) = feedQ k l[k] := by
  unfold feedsF
  rw [List.getElem_mapIdx, List.getElem_take]
theorem feedsF_take {l : List (List Int)} {k : Nat} (h : k < l.length) (h6 : k < 60) : (feedsF l).take (k + 1) = (feedsF l).take k ++ [feedQ k l[k]] := by
  rw [List.take_succ_eq_append_getElem (by rw [feedsF_len]; omega), feedsF_at h h6]
def smF (x : FD) : Prop := 1 ≤ x.ag ∧ x.ag ≤ 3 ∧ 1 ≤ x.num ∧ x.num ≤ 64 ∧ 0 ≤ x.kind ∧ x.kind ≤ 5 ∧ 1 ≤ x.hd ∧ x.hd ≤ 8 ∧ 0 ≤ x.to ∧ x.to ≤ 8 ∧ (x.txt = ⟨#[]⟩ ∨ x.txt ∈ nameL ∨ x.txt ∈ splL)
theorem kindL_bd (n : Nat) : 0 ≤ kindL.getD n 0 ∧ kindL.getD n 0 ≤ 5 := by
  match n with
  | 0 | 1 | 2 | 3 | 4 | 5 | 6 | 7 | 8 => exact ⟨by decide, by decide⟩
  | n + 9 => exact ⟨by show (0 : Int) ≤ 0; decide, by show (0 : Int) ≤ 5; decide⟩
theorem getD_or (l : List ByteArray) (n : Nat) : l.getD n ⟨#[]⟩ = ⟨#[]⟩ ∨ l.getD n ⟨#[]⟩ ∈ l := by
  rw [List.getD_eq_getElem?_getD]
  cases h : l[n]? with
  | none => exact .inl rfl
  | some x => exact .inr (List.mem_of_getElem? h)
theorem feedQ_sm {k : Nat} (h : k < 60) (q : List Int) : smF (feedQ k q) := by
  unfold feedQ
  generalize q.getD 0 0 = q0; generalize q.getD 1 0 = q1; generalize q.getD 2 0 = q2; generalize q.getD 3 0 = q3
  have h0 : smF (feed0 k q0 q1 q2 q3) := by
    obtain ⟨k1, k2⟩ := kindL_bd (q0 % 9).toNat
    refine ⟨?_, ?_, ?_, ?_, k1, k2, ?_, ?_, ?_, ?_, ?_⟩
    · show 1 ≤ 1 + q3 % 3; omega
    · show 1 + q3 % 3 ≤ 3; omega
    · show 1 ≤ 1 + (k : Int) + q3.tdiv 3 % 4; omega
    · show 1 + (k : Int) + q3.tdiv 3 % 4 ≤ 64; omega
    · show 1 ≤ 1 + q1 % 8; omega
    · show 1 + q1 % 8 ≤ 8; omega
    · exact Int.le_refl _
    · show (0 : Int) ≤ 8; decide
    · exact (getD_or _ _).imp_right .inl
  have hA : smF (feedA k q0 q1 q2 q3) := by
    unfold feedA
    split
    · obtain ⟨a1, a2, a3, a4, a5, a6, a7, a8, a9, a10, a11⟩ := h0
      exact ⟨a1, a2, a3, a4, a5, a6, a7, a8, by show 0 ≤ 1 + q2 % 8; omega, by show 1 + q2 % 8 ≤ 8; omega, .inl rfl⟩
    · exact h0
  unfold feedC
  split
  · obtain ⟨a1, a2, a3, a4, a5, a6, a7, a8, a9, a10, a11⟩ := hA
    exact ⟨a1, a2, a3, a4, a5, a6, a7, a8, a9, a10, (getD_or _ _).imp_right .inr⟩
  · exact hA
theorem feedsF_sm {l : List (List Int)} : ∀ x ∈ feedsF l, smF x := fun x hx => by
  obtain ⟨k, hk, rfl⟩ := List.getElem_of_mem hx
  have h := feedsF_len l
  have h1 : k < l.length := by omega
  rw [feedsF_at h1 (by omega)]
  exact feedQ_sm (by omega) _
theorem txt_sm {t : ByteArray} (h : t = ⟨#[]⟩ ∨ t ∈ nameL ∨ t ∈ splL) : t.size ≤ 13 := by
  have h1 : ∀ t ∈ nameL ++ splL, t.size ≤ 13 := by decide
  rcases h with h | h | h
  · rw [h]; decide
  · exact h1 t (List.mem_append_left _ h)
  · exact h1 t (List.mem_append_right _ h)
theorem smF.size {x : FD} (h : smF x) : x.txt.size ≤ 13 := txt_sm h.2.2.2.2.2.2.2.2.2.2
theorem take_new {fs : List FD} {x : FD} (hr : rightF x) (h : ∀ y ∈ fs, ¬(y.num = x.num ∧ y.ag = x.ag)) (hm : fs.length < 5000) : takeF fs x = (0, insF fs x) := by
  unfold takeF
  rw [if_neg (fun h => h hr), if_neg (fun hx => h x hx ⟨rfl, rfl⟩), if_neg (fun ⟨y, hy, he⟩ => h y hy he), if_neg (by omega)]
theorem take_zero {fs : List FD} {x : FD} (h : (takeF fs x).1 = 0) : rightF x ∧ (∀ y ∈ fs, ¬(y.num = x.num ∧ y.ag = x.ag)) ∧ fs.length < 5000 ∧ (takeF fs x).2 = insF fs x := by
  unfold takeF at *
  split at h
  · exact absurd h (show ¬((1 : Int) = 0) by decide)
  rename_i h1
  rw [if_neg h1]
  split at h
  · exact absurd h (show ¬((22 : Int) = 0) by decide)
  rename_i h2
  rw [if_neg h2]
  split at h
  · exact absurd h (show ¬((30 : Int) = 0) by decide)
  rename_i h3
  rw [if_neg h3]
  split at h
  · exact absurd h (show ¬((2 : Int) = 0) by decide)
  rename_i h4
  rw [if_neg h4]
  exact ⟨Decidable.not_not.1 h1, fun y hy he => h3 ⟨y, hy, he⟩, by omega, rfl⟩
theorem take_nz {fs : List FD} {x : FD} (h : (takeF fs x).1 ≠ 0) : (takeF fs x).2 = fs := by
  unfold takeF at *
  split
  · rfl
  rename_i h1
  rw [if_neg h1] at h
  split
  · rfl
  rename_i h2
  rw [if_neg h2] at h
  split
  · rfl
  rename_i h3
  rw [if_neg h3] at h
  split
  · rfl
  rename_i h4
  rw [if_neg h4] at h
  exact absurd rfl h
def apartF (l : List FD) : Prop := l.Pairwise (fun a c => ¬(a.num = c.num ∧ a.ag = c.ag))
theorem all_perm : ∀ (l : List FD), (∀ x ∈ l, rightF x) → apartF l → l.length ≤ 5000 → (takeAll l).Perm l := fun l => by
  refine snocRec (motive := fun l => (∀ x ∈ l, rightF x) → apartF l → l.length ≤ 5000 → (takeAll l).Perm l) (fun _ _ _ => List.Perm.refl _) (fun l a ih hr ha hl => ?_) l
  rw [List.length_append, List.length_singleton] at hl
  have ha2 := List.pairwise_append.1 ha
  have h1 := ih (fun x hx => hr x (List.mem_append_left _ hx)) ha2.1 (by omega)
  rw [takeAll_snoc, take_new (hr a (by simp)) (fun y hy => ha2.2.2 y (h1.mem_iff.1 hy) a (by simp)) (by rw [h1.length_eq]; omega)]
  exact (insF_perm _ _).trans ((h1.cons a).trans (List.perm_append_comm (l₁ := [a])))
theorem srt_ext : ∀ {a c : List FD}, srtF8 a → srtF8 c → (∀ y, y ∈ a ↔ y ∈ c) → a = c
  | [], [], _, _, _ => rfl
  | [], y :: l, _, _, h => absurd ((h y).2 (.head _)) (by simp)
  | x :: l, [], _, _, h => absurd ((h x).1 (.head _)) (by simp)
  | x :: l, y :: m, ha, hc, h => by
    have h1 := List.pairwise_cons.1 ha
    have h2 := List.pairwise_cons.1 hc
    have hxy : x = y := by
      rcases List.mem_cons.1 ((h x).1 (.head _)) with e | e
      · exact e
      rcases List.mem_cons.1 ((h y).2 (.head _)) with e' | e'
      · exact e'.symm
      exact absurd (befF_trans (h1.1 y e') (h2.1 x e)) befF_irr
    subst hxy
    congr 1
    refine srt_ext h1.2 h2.2 fun z => ⟨fun hz => ?_, fun hz => ?_⟩
    · rcases List.mem_cons.1 ((h z).1 (.tail _ hz)) with e | e
      · subst e; exact absurd (h1.1 z hz) befF_irr
      · exact e
    · rcases List.mem_cons.1 ((h z).2 (.tail _ hz)) with e | e
      · subst e; exact absurd (h2.1 z hz) befF_irr
      · exact e
theorem takeAll_sub (l : List FD) : ∀ x ∈ takeAll l, x ∈ l := by
  refine snocRec (motive := fun l => ∀ x ∈ takeAll l, x ∈ l) (fun x hx => by cases hx) (fun l a h x hx => ?_) l
  rw [takeAll_snoc] at hx
  by_cases h0 : (takeF (takeAll l) a).1 = 0
  · rw [(take_zero h0).2.2.2] at hx
    rcases insF_mem.1 hx with rfl | hx
    · exact List.mem_append_right _ (.head _)
    · exact List.mem_append_left _ (h x hx)
  · rw [take_nz h0] at hx
    exact List.mem_append_left _ (h x hx)
end Go.PK

namespace Go.PK
open Go Go.RowKit
section
variable {P : Program} {n : Nat} {l : List (Nat × Value)} {own : List (Nat × Obj)} {ro : List Snap} {lops : List Oper} {Q : Exit → Act → World → Prop} {K : Act → World → Prop} {plan : List (Option Bool × Nat)}
theorem x_fix (own' : List (Nat × Obj)) (hs : own'.Sublist own) (h : ∀ w0, Mem w0 own ro → WX P lops.toArray Q K plan n l own' ((w0, notOwn own') :: ro)) : WX P lops.toArray Q K plan n l own ro :=
  fun a w ha hw => h w hw a w ha (hw.fix hs)
end
def exG : List Fl := [⟨⟨#[55, 48, 48]⟩, ⟨#[49, 32]⟩, ⟨#[]⟩, [⟨97, ⟨#[116, 119, 97, 105, 110, 32, 109]⟩⟩]⟩, ⟨⟨#[50, 52, 53]⟩, ⟨#[49, 48]⟩, ⟨#[]⟩, [⟨97, ⟨#[84, 111, 109, 32, 83, 97, 119, 121, 101, 114]⟩⟩]⟩]
def exG2 : List Fl := [⟨⟨#[55, 48, 48]⟩, ⟨#[49, 32]⟩, ⟨#[]⟩, [⟨97, T8b⟩, ⟨48, ⟨#[50]⟩⟩]⟩, ⟨⟨#[50, 52, 53]⟩, ⟨#[49, 48]⟩, ⟨#[]⟩, [⟨97, ⟨#[84, 111, 109, 32, 83, 97, 119, 121, 101, 114]⟩⟩]⟩]
theorem ex_rn : resN8 hs8 (wordsP (titF exG)) 9 2 = some 2 := by kernel_rfl
theorem ex_rew : rewF hs8 exG = exG2 := by
  have h2 := (resolve_of ex_rn).2
  have a1 : rewX hs8 (titF exG) exG[0] = exG2[0] := by
    unfold rewX
    rw [if_pos (by constructor <;> kernel_rfl), show (hdF hs8 exG[0].subs).1 = 2 from by kernel_rfl, h2]
    kernel_rfl
  have a2 : rewX hs8 (titF exG) exG[1] = exG2[1] := by
    unfold rewX
    rw [if_neg (fun h => absurd h.1 (by decide))]
    kernel_rfl
  show [rewX hs8 (titF exG) exG[0], rewX hs8 (titF exG) exG[1]] = [exG2[0], exG2[1]]
  rw [a1, a2]
theorem ex_find' : findF (stF exF).hs ⟨#[67, 76, 69, 77, 69, 78, 83, 44, 32, 83, 97, 109, 117, 101, 108]⟩ = (1, true) := by rw [stF_of ex_st]; exact ex_find
theorem ex_r1' : resolveF (stF exF).hs (wordsP ⟨#[84, 111, 109, 32, 83, 97, 119, 121, 101, 114]⟩) 1 = (2, true) := by rw [stF_of ex_st]; exact (resolve_of ex_r1).1
theorem ex_r2' : resolveF (stF exF).hs (wordsP ⟨#[79, 108, 100, 32, 115, 111, 110, 103, 115]⟩) 1 = (3, true) := by rw [stF_of ex_st]; exact (resolve_of ex_r2).1
end Go.PK

namespace Go.PK
open Go Go.ChangeShapes Go.WideShapes Go.ChangeAt Go.RowKit
structure Meas (H : Type) where
  f : DataW H → Nat
  all : List (DataW H) → Nat
  str : ∀ bs, f (.lit (.string bs)) = bs.length + 1
  slice : ∀ es sp, f (.slice es sp) = all es + all sp + 1
  agg : ∀ ps, f (.agg ps) = all ps + 1
  cons : ∀ d r, all (d :: r) = f d + all r
  one : ∀ d, 1 ≤ f d
structure RdrN {α : Type} (P : Program) (t : TypeId) (T : Ty α) (N : Nat) : Prop where
  size : P.cellsOf t = T.size
  pos : 0 < T.size
  rd : ∀ {H : Type} {enc : TypeId × Value → H} {w : World} {base : Nat} {sp : Nat → Bool} {held : Bool} {fuel : Nat} {cs : List Value} {x : DataW H × List MemPlace} (M : Meas H), M.f x.1 ≤ N → DataW.trod enc P w base sp held fuel t cs = some x → ∃ y, T.rd (fun _ => True) w cs y
theorem Rdr.N {α : Type} {P : Program} {t : TypeId} {T : Ty α} {N : Nat} (R : Rdr P t T) : RdrN P t T N := ⟨R.size, R.pos, fun _ _ h => R.rd h⟩
section
variable {P : Program} {H : Type} {enc : TypeId × Value → H}
end
section
variable {H : Type} {enc : TypeId × Value → H} {P : Program} {W : World} {base b0 : Nat} {sp : Nat → Bool} {held : Bool} {r : Reach} {t e : TypeId} {v : Value} {d : DataW H} {ps : List MemPlace}
theorem sliceRd.each {α : Type} {T : Ty α} {D : Nat → Prop} {v : Value} {xs : List α} {w : World} (h : sliceRd T D w v xs) {Q : α → Prop} (hT : ∀ cs x, T.rd D w cs x → Q x) : ∀ x ∈ xs, Q x := by
  intro x hx
  obtain ⟨A, c, h1, h2, h3, h4⟩ := h
  obtain ⟨b, off, e, hD, hb, hc⟩ := h4 (List.length_pos_of_mem hx)
  obtain ⟨j, hj, rfl⟩ := List.getElem_of_mem hx
  obtain ⟨cs, k1, k2⟩ := hc j hj
  exact hT _ _ k2
end
end Go.PK

namespace Go.PK
open Go Go.ChangeShapes Go.WideShapes Go.ChangeAt Go.RowKit
end Go.PK

namespace Go.PK
open Go Go.RowKit
end Go.PK

namespace Go.PK
open Go Go.RowKit
theorem all_mem {xs : List FD} (hr : ∀ x ∈ xs, rightF x) (ha : apartF xs) (hl : xs.length ≤ 5000) {y : FD} : y ∈ takeAll xs ↔ y ∈ xs := (all_perm xs hr ha hl).mem_iff
end Go.PK

namespace Go.PK
open Go Go.RowKit
theorem nd_len : ∀ (l m : List FD), l.Nodup → (∀ x ∈ l, x ∈ m) → l.length ≤ m.length
  | [], _, _, _ => Nat.zero_le _
  | a :: l, m, hn, hs => by
    have ha := hs a (.head _)
    rw [List.nodup_cons] at hn
    have h1 := nd_len l (m.erase a) hn.2 fun x hx => (List.mem_erase_of_ne (fun e => hn.1 (by rw [← e]; exact hx))).2 (hs x (.tail _ hx))
    rw [List.length_erase_of_mem ha] at h1
    have := List.length_pos_of_mem ha
    rw [List.length_cons]
    omega
theorem srt_nodup {l : List FD} (h : srtF8 l) : l.Nodup := List.Pairwise.imp (fun {a c} hb he => by subst he; exact befF_irr hb) h
structure OrdP (xs : List FD) (S : Nat → Prop) (gs : List FD) : Prop where
  ok : FsOK gs
  mem : ∀ f, f ∈ gs ↔ ∃ n, ∃ h : n < xs.length, S n ∧ f = xs[n]
section
variable {xs gs : List FD} {S S' : Nat → Prop}
theorem OrdP.same (h : OrdP xs S gs) (he : ∀ n, n < xs.length → (S n ↔ S' n)) : OrdP xs S' gs :=
  ⟨h.ok, fun f => by rw [h.mem]; exact ⟨fun ⟨n, h1, h2, h3⟩ => ⟨n, h1, (he n h1).1 h2, h3⟩, fun ⟨n, h1, h2, h3⟩ => ⟨n, h1, (he n h1).2 h2, h3⟩⟩⟩
theorem OrdP.nil (hS : ∀ n, ¬S n) : OrdP xs S [] := ⟨FsOK.nil, fun f => ⟨fun h => (by cases h), fun ⟨n, _, h, _⟩ => absurd h (hS n)⟩⟩
theorem OrdP.len (h : OrdP xs S gs) : gs.length ≤ xs.length := nd_len gs xs (srt_nodup h.ok.srt) fun x hx => by
  obtain ⟨n, h1, _, rfl⟩ := (h.mem x).1 hx
  exact List.getElem_mem h1
theorem apart_at (ha : apartF xs) {i j : Nat} (hi : i < xs.length) (hj : j < xs.length) (h : xs[i].num = xs[j].num ∧ xs[i].ag = xs[j].ag) : i = j := by
  rcases Nat.lt_trichotomy i j with h1 | h1 | h1
  · exact absurd h ((List.pairwise_iff_getElem.1 ha) i j hi hj h1)
  · exact h1
  · exact absurd ⟨h.1.symm, h.2.symm⟩ ((List.pairwise_iff_getElem.1 ha) j i hj hi h1)
theorem OrdP.new (h : OrdP xs S gs) (hr : ∀ x ∈ xs, rightF x) (ha : apartF xs) (hl : xs.length < 5000) {n : Nat} (hn : n < xs.length) (hS : ¬S n) : ∃ gs', takeF gs xs[n] = (0, gs') ∧ OrdP xs (fun m => S m ∨ m = n) gs' := by
  have hno : ∀ y ∈ gs, ¬(y.num = xs[n].num ∧ y.ag = xs[n].ag) := fun y hy he => by
    obtain ⟨m, h1, h2, rfl⟩ := (h.mem y).1 hy
    have := apart_at ha h1 hn he
    exact hS (this ▸ h2)
  have ht := take_new (hr _ (List.getElem_mem hn)) hno (Nat.lt_of_le_of_lt h.len hl)
  refine ⟨_, ht, ?_, fun f => ?_⟩
  · have := h.ok.take xs[n]
    rw [ht] at this
    exact this
  · rw [insF_mem, h.mem]
    constructor
    · rintro (rfl | ⟨m, h1, h2, h3⟩)
      · exact ⟨n, hn, .inr rfl, rfl⟩
      · exact ⟨m, h1, .inl h2, h3⟩
    · rintro ⟨m, h1, h2 | rfl, h3⟩
      · exact .inr ⟨m, h1, h2, h3⟩
      · exact .inl h3
theorem OrdP.all (h : OrdP xs S gs) (hr : ∀ x ∈ xs, rightF x) (ha : apartF xs) (hl : xs.length ≤ 5000) (hS : ∀ n, n < xs.length → S n) : gs = takeAll xs :=
  srt_ext h.ok.srt (takeAll_ok xs).srt fun y => by
    rw [h.mem, all_mem hr ha hl]
    constructor
    · rintro ⟨n, h1, _, rfl⟩; exact List.getElem_mem h1
    · intro hy
      obtain ⟨n, h1, rfl⟩ := List.getElem_of_mem hy
      exact ⟨n, h1, hS n h1, rfl⟩
end
end Go.PK

namespace Go.PK
open Go Go.RowKit
theorem ins_last {l : List FD} {x : FD} (h : ∀ y ∈ l, befF y x) : insF l x = l ++ [x] := by
  rw [insF_at (n := l.length) (Nat.le_refl _) (fun i hi _ => h _ (List.getElem_mem hi)) (fun i hi h2 => absurd hi (by omega)), List.take_length, List.drop_length]
end Go.PK

namespace Go.PK
open Go Go.RowKit
theorem acc_ids {hs l : List HG} {x : FD} (h : accS hs x = some l) : l.map (·.id) = hs.map (·.id) ∨ l.map (·.id) = hs.map (·.id) ++ [x.hd] := by
  unfold accS at h
  cases hl : lkH hs x.hd with
  | none =>
    rw [hl] at h
    dsimp only at h
    split at h
    · injection h with h
      rw [← h, List.map_append]; exact .inr rfl
    · cases h
  | some g =>
    rw [hl] at h
    dsimp only at h
    split at h
    · cases h
    split at h
    · cases h
    split at h
    · injection h with h
      rw [← h, setH_ids]; exact .inl rfl
    split at h
    · injection h with h
      rw [← h, setH_ids]; exact .inl rfl
    split at h
    · cases h
    split at h
    · cases h
    split at h
    · injection h with h
      rw [← h, setH_ids]; exact .inl rfl
    · injection h with h
      rw [← h, setH_ids]; exact .inl rfl
theorem st_ids (fs : List FD) : ∀ i ∈ (stF fs).hs.map (·.id), i ∈ fs.map (·.hd) := by
  refine snocRec (motive := fun fs => ∀ i ∈ (stF fs).hs.map (·.id), i ∈ fs.map (·.hd)) (fun i hi => by cases hi) (fun l a h i hi => ?_) fs
  rw [stF_snoc] at hi
  unfold applyS at hi
  rw [List.map_append, List.mem_append]
  cases ha : accS (stF l).hs a with
  | none => rw [ha] at hi; exact .inl (h i hi)
  | some hs =>
    rw [ha] at hi
    rcases acc_ids ha with e | e
    · have hi : i ∈ hs.map (·.id) := hi
      rw [e] at hi; exact .inl (h i hi)
    · have hi : i ∈ hs.map (·.id) := hi
      rw [e] at hi
      rcases List.mem_append.1 hi with hi | hi
      · exact .inl (h i hi)
      · exact .inr hi
theorem idsP_of {fs : List FD} {p : Int → Prop} (h : ∀ f ∈ fs, p f.hd) : ∀ g ∈ (stF fs).hs, p g.id := fun g hg => by
  obtain ⟨f, hf, he⟩ := List.mem_map.1 (st_ids fs g.id (List.mem_map_of_mem hg))
  rw [← he]; exact h f hf
theorem stF_acy8 {fs : List FD} (h : ∀ x ∈ fs, rightF x) : Acy (stF fs).hs := stF_acy h
theorem res_yes {hs : List HG} (ha : Acy hs) {ws : List ByteArray} {h : Int} (hy : (resolveF hs ws h).2 = true) : ∃ g, lkH hs h = some g ∧ resolveF hs ws h = (resF hs ws h, true) ∧ resolveF hs ws (resF hs ws h) = (resF hs ws h, true) := by
  cases hl : lkH hs h with
  | none => unfold resolveF at hy; rw [hl] at hy; cases hy
  | some g =>
    obtain ⟨n, hn⟩ := ha.res ws hl
    refine ⟨g, rfl, by unfold resolveF; rw [hl], ?_⟩
    obtain ⟨g2, h1, _⟩ := hn.last
    unfold resolveF
    rw [h1]
    exact Prod.ext (res_again hn) rfl
structure CirP (F : List FD) (gs : List FD) (b n : Nat) (r : Nat) : Prop where
  hs : (stF gs).hs = (stF F).hs
  ref : (stF gs).ref.length = r
  num : ∀ f ∈ gs, f.num < (b : Int)
  len : gs.length ≤ n
  rt : ∀ f ∈ gs, rightF f
theorem CirP.more {F gs : List FD} {b n r b' n' : Nat} (h : CirP F gs b n r) (hb : b ≤ b') (hn : n ≤ n') : CirP F gs b' n' r := ⟨h.hs, h.ref, fun f hf => by have := h.num f hf; omega, by have := h.len; omega, h.rt⟩
theorem CirP.step {F gs : List FD} {b n r : Nat} (hP : CirP F gs b n r) (hn : n < 5000) (hb : 1 ≤ b) {ws : List ByteArray} {h : Int} (hy : (resolveF (stF gs).hs ws h).2 = true) {x : FD} (hx : x = ⟨9, (b : Nat), 4, (resolveF (stF gs).hs ws h).1, h, ⟨#[]⟩⟩) : takeF gs x = (0, gs ++ [x]) ∧ CirP F (gs ++ [x]) (b + 1) (n + 1) (r + 1) := by
  have ha := stF_acy8 hP.rt
  obtain ⟨g, hl, h1, h2⟩ := res_yes ha hy
  rw [h1] at hx
  obtain ⟨k, hk⟩ := ha.res ws hl
  obtain ⟨g2, hl2, hst⟩ := hk.last
  obtain ⟨m1, m2⟩ := lkH_mem hl
  obtain ⟨m3, m4⟩ := lkH_mem hl2
  have p1 := ha.pos g m1
  have p2 := ha.pos g2 m3
  have hr : rightF x := by
    rw [hx]
    refine ⟨by show (1 : Int) ≤ 9; decide, by show (1 : Int) ≤ (b : Nat); omega, by show 1 ≤ resF _ _ _; rw [← m4]; exact p2.1, .inr (.inl ⟨rfl, by show 1 ≤ h; rw [← m2]; exact p1.1⟩)⟩
  have hbf : ∀ y ∈ gs, befF y x := fun y hy => .inl (by rw [hx]; exact hP.num y hy)
  have hno : ∀ y ∈ gs, ¬(y.num = x.num ∧ y.ag = x.ag) := fun y hy he => by have := hbf y hy; unfold befF at this; omega
  have ht : takeF gs x = (0, gs ++ [x]) := by rw [take_new hr hno (by have := hP.len; omega), ins_last hbf]
  have hacc : accS (stF gs).hs x = none := by
    by_cases hi : g2.into = 0
    · exact acc_may (by rw [hx]; show (4 : Int) ≤ 4; decide) (.inr (by rw [hx]; exact rchB_iff.2 hk.reach))
    · exact acc_dead (by rw [hx]; show (4 : Int) ≠ 1; decide) (fun g' hg' => by
        rw [hx] at hg'
        rw [hl2] at hg'
        injection hg' with hg'
        rw [← hg']; exact hi)
  have hap : stF (gs ++ [x]) = ⟨(stF gs).hs, (stF gs).ref ++ [x]⟩ := by
    rw [stF_snoc]
    unfold applyS
    rw [hacc]
  refine ⟨ht, by rw [hap]; exact hP.hs, by rw [hap, List.length_append, hP.ref]; rfl, fun f hf => ?_, by rw [List.length_append]; have := hP.len; show _ + 1 ≤ _; omega, fun f hf => ?_⟩
  · rcases List.mem_append.1 hf with hf | hf
    · have := hP.num f hf; omega
    · rw [List.mem_singleton.1 hf, hx]; show ((b : Nat) : Int) < ((b + 1 : Nat) : Int); omega
  · rcases List.mem_append.1 hf with hf | hf
    · exact hP.rt f hf
    · rw [List.mem_singleton.1 hf]; exact hr
end Go.PK

namespace Go.PK
open Go Go.RowKit
def tagsR : List ByteArray := [⟨#[49, 48, 48]⟩, ⟨#[49, 49, 48]⟩, ⟨#[54, 48, 48]⟩, ⟨#[54, 53, 48]⟩, ⟨#[55, 48, 48]⟩, ⟨#[53, 48, 48]⟩, ⟨#[50, 52, 53]⟩]
def namesR : List ByteArray := [⟨#[84, 119, 97, 105, 110, 44, 32, 77, 97, 114, 107, 46]⟩, ⟨#[67, 76, 69, 77, 69, 78, 83]⟩, ⟨#[69, 118, 97, 110, 115]⟩, ⟨#[110, 111, 98, 111, 100, 121]⟩, ⟨#[83, 111, 110, 103, 115]⟩, ⟨#[122, 111, 108, 97]⟩, ⟨#[101, 108, 105, 111, 116, 32, 103, 101, 111, 114, 103, 101]⟩, ⟨#[]⟩]
def presR : List ByteArray := [⟨#[]⟩, ⟨#[48]⟩, ⟨#[48, 48]⟩, ⟨#[45]⟩]
def sbD : Sb := ⟨100, ⟨#[49, 56, 51, 53]⟩⟩
def rqA (q1 q2 : Int) : List Sb := if q1 % 4 > 0 then [⟨97, namesR.getD (q2 % 8).toNat ⟨#[]⟩⟩] else []
def rqB (q1 q2 : Int) : List Sb := rqA q1 q2 ++ [sbD]
def rqZ (q1 q2 : Int) : Sb := ⟨48, presR.getD (q1.tdiv 12 % 4).toNat ⟨#[]⟩ ++ itoaS (q2.tdiv 8 % 10)⟩
def rqC (q1 q2 : Int) : List Sb := if q1.tdiv 4 % 3 = 2 then rqB q1 q2 ++ [rqZ q1 q2] else rqB q1 q2
def rqD (q1 q2 : Int) : List Sb := if q1.tdiv 48 % 4 = 3 then rqC q1 q2 ++ rqC q1 q2 else rqC q1 q2
def rqL (q0 q1 q2 : Int) : Fl := ⟨tagsR.getD (q0 % 7).toNat ⟨#[]⟩, ⟨#[49, 32]⟩, ⟨#[]⟩, rqD q1 q2⟩
def rqQ (q : List Int) : Fl := rqL (q.getD 0 0) (q.getD 1 0) (q.getD 2 0)
def rq0 : Fl := ⟨⟨#[48, 48, 49]⟩, ⟨#[]⟩, ⟨#[120, 49]⟩, []⟩
def rqE (tt : ByteArray) : Fl := ⟨⟨#[50, 52, 53]⟩, ⟨#[49, 48]⟩, ⟨#[]⟩, [⟨97, tt⟩]⟩
def rqK (l : List (List Int)) (k : Nat) : List Fl := rq0 :: (l.take k).map rqQ
def rqF (tt : ByteArray) (l : List (List Int)) : List Fl := rqK l 12 ++ [rqE tt]
theorem rqK_succ {l : List (List Int)} {k : Nat} (h : k < l.length) : rqK l (k + 1) = rqK l k ++ [rqQ l[k]] := by
  unfold rqK
  rw [List.take_succ_eq_append_getElem h, List.map_append]; rfl
theorem rqK_len {l : List (List Int)} {k : Nat} (h : k ≤ l.length) : (rqK l k).length = k + 1 := by
  unfold rqK
  rw [List.length_cons, List.length_map, List.length_take, Nat.min_eq_left h]
theorem rqK_all {l : List (List Int)} {k : Nat} (h : k ≤ l.length) (h2 : k ≤ 12) (h3 : l.length ≤ k ∨ 12 ≤ k) : rqK l k = rqK l 12 := by
  rcases h3 with h3 | h3
  · unfold rqK
    rw [List.take_of_length_le h3, List.take_of_length_le (by omega)]
  · rw [show k = 12 by omega]
theorem rqB_len (q1 q2 : Int) : (rqB q1 q2).length ≤ 2 := by
  unfold rqB rqA
  split <;> simp
theorem rqC_len (q1 q2 : Int) : (rqC q1 q2).length ≤ 3 := by
  have := rqB_len q1 q2
  unfold rqC
  split
  · rw [List.length_append]; show _ + 1 ≤ 3; omega
  · omega
theorem rqD_len (q1 q2 : Int) : (rqD q1 q2).length ≤ 6 := by
  have := rqC_len q1 q2
  unfold rqD
  split
  · rw [List.length_append]; omega
  · omega
theorem getD_sz (l : List ByteArray) (n m : Nat) (h : ∀ t ∈ l, t.size ≤ m) : (l.getD n ⟨#[]⟩).size ≤ m := by
  rw [List.getD_eq_getElem?_getD]
  cases hq : l[n]? with
  | none => exact Nat.zero_le _
  | some x => exact h x (List.mem_of_getElem? hq)
theorem rqZ_sz (q1 q2 : Int) : (rqZ q1 q2).text.size ≤ 12 := by
  have h1 : (presR.getD (q1.tdiv 12 % 4).toNat ⟨#[]⟩).size ≤ 2 := getD_sz presR _ 2 (by decide)
  have h2 : (itoaS (q2.tdiv 8 % 10)).size ≤ 0 + 1 := (itoa_sz (by omega) 0).2 (by omega)
  show (_ ++ _ : ByteArray).size ≤ 12
  rw [ByteArray.size_append]
  omega
theorem rqB_sz (q1 q2 : Int) : ∀ s ∈ rqB q1 q2, s.text.size ≤ 12 ∧ s.code ≠ 48 := fun s hs => by
  unfold rqB rqA at hs
  rcases List.mem_append.1 hs with hs | hs
  · split at hs
    · rw [List.mem_singleton.1 hs]
      exact ⟨getD_sz namesR _ 12 (by decide), by show (97 : UInt8) ≠ 48; decide⟩
    · cases hs
  · rw [List.mem_singleton.1 hs]
    exact ⟨by decide, by decide⟩
theorem rqD_sz (q1 q2 : Int) : ∀ s ∈ rqD q1 q2, s.text.size ≤ 12 := fun s hs => by
  have hc : ∀ s ∈ rqC q1 q2, s.text.size ≤ 12 := fun s hs => by
    unfold rqC at hs
    split at hs
    · rcases List.mem_append.1 hs with hs | hs
      · exact (rqB_sz q1 q2 s hs).1
      · rw [List.mem_singleton.1 hs]; exact rqZ_sz q1 q2
    · exact (rqB_sz q1 q2 s hs).1
  unfold rqD at hs
  split at hs
  · exact (List.mem_append.1 hs).elim (hc s) (hc s)
  · exact hc s hs
theorem rqQ_ok (q : List Int) : smFl (rqQ q) ∧ okFl (rqQ q) ∧ ∀ s ∈ (rqQ q).subs, s.code = 48 → s.text.size ≤ 18 := by
  have h1 : (rqQ q).subs = rqD (q.getD 1 0) (q.getD 2 0) := rfl
  have h2 := rqD_len (q.getD 1 0) (q.getD 2 0)
  have h3 := rqD_sz (q.getD 1 0) (q.getD 2 0)
  have h4 : (rqQ q).tag.size ≤ 3 := getD_sz tagsR _ 3 (by decide)
  refine ⟨⟨by rw [h1]; omega, fun s hs => by rw [h1] at hs; have := h3 s hs; omega⟩, ⟨⟨by unfold okS; omega, ?_, ?_⟩, fun s hs => by rw [h1] at hs; have := h3 s hs; unfold okS; omega⟩, fun s hs _ => by rw [h1] at hs; have := h3 s hs; omega⟩
  · show okS ⟨#[49, 32]⟩
    unfold okS; decide +kernel
  · show okS ⟨#[]⟩
    unfold okS; decide +kernel
theorem rqF_ok (tt : ByteArray) (ht : tt.size ≤ 20) (l : List (List Int)) : ∀ f ∈ rqF tt l, smFl f ∧ okFl f ∧ ∀ s ∈ f.subs, s.code = 48 → s.text.size ≤ 18 := fun f hf => by
  unfold rqF rqK at hf
  rcases List.mem_append.1 hf with hf | hf
  · rcases List.mem_cons.1 hf with rfl | hf
    · refine ⟨⟨by decide, by decide⟩, ⟨⟨?_, ?_, ?_⟩, fun s hs => by cases hs⟩, fun s hs => by cases hs⟩ <;> (unfold okS; decide +kernel)
    · obtain ⟨q, _, rfl⟩ := List.mem_map.1 hf
      exact rqQ_ok q
  · rw [List.mem_singleton.1 hf]
    refine ⟨⟨by show 1 ≤ 1000; decide, fun s hs => ?_⟩, ⟨⟨?_, ?_, ?_⟩, fun s hs => ?_⟩, fun s hs h48 => ?_⟩
    · rw [List.mem_singleton.1 hs]; show tt.size ≤ 1000; omega
    · show okS ⟨#[50, 52, 53]⟩; unfold okS; decide +kernel
    · show okS ⟨#[49, 48]⟩; unfold okS; decide +kernel
    · show okS ⟨#[]⟩; unfold okS; decide +kernel
    · rw [List.mem_singleton.1 hs]; show tt.size ≤ _; omega
    · rw [List.mem_singleton.1 hs] at h48; exact absurd h48 (by show ¬(97 : UInt8) = 48; decide)
end Go.PK

namespace Go.PK
open Go Go.RowKit
section
variable {P : Program} {n : Nat} {l : List (Nat × Value)} {own : List (Nat × Obj)} {ro : List Snap} {lops : List Oper} {Q : Exit → Act → World → Prop} {K : Act → World → Prop}
  {rest : List (Option Bool × Nat)} {k : Option Bool} {i d : Nat} {ty t : TypeId} {pos : String} {af : Array Edge}
theorem x_owng {j dj : Nat} {want : Bool} {τ : Type} {f : FuncId} {fn : Func} {xs : Array Operand} {tys : Array TypeId} {vs : List Value} (V : τ → Value) (R : τ → Prop) (O : τ → List (Nat × Obj)) (ho : lops[i]? = some ⟨some d, .call ⟨.value (.func f), xs, tys⟩, ty, pos, af, some (j, want)⟩) (hj : (lops[j]?).bind (·.dst) = some dj) (hb : l.lookup dj = some (.bool want)) (hk : (k == some true) = false) (hd : decide (d < n) = true)
    (hf : P.funcs[f]? = some fn) (hbody : (!(fn.name == "runtime.NumGoroutine") && fn.body.isSome) = true) (hx : evs l xs.toList = some vs)
    (hc : ∀ w, Mem w own ro → Calls P f vs.toArray w fun e w' => ∃ x, e = .returned (V x) ∧ Later w w' ∧ R x ∧ Mem w' (O x) ro)
    (h : ∀ x, R x → WX P lops.toArray Q K rest n ((d, V x) :: l) (O x) ro) : WX P lops.toArray Q K ((k, i) :: rest) n l own ro := by
  intro a w ha hw
  have hd' : d < n := of_decide_eq_true hd
  have hw1 := go_some (lops := lops) (n := n) (l := l) (o := ⟨some d, .call ⟨.value (.func f), xs, tys⟩, ty, pos, af, some (j, want)⟩) rfl hj hb a ha
  have hc' : ∀ w, Mem w own ro → Calls P f ((#[] : Array Value) ++ vs.toArray ++ #[]) w fun e w' => ∃ x, e = .returned (V x) ∧ Later w w' ∧ R x ∧ Mem w' (O x) ro := by simpa using hc
  simp only [wpX, List.getElem?_toArray, ho]
  cases k with
  | none =>
    intro w' hl
    rw [if_pos hw1]
    unfold Oper.wp
    rw [run_callv (fst := #[]) (cap := #[]) rfl ha rfl hf hbody hx]
    refine Calls.mono (hc' w' (hw.later hl)) fun e w2 he => ?_
    obtain ⟨x, rfl, hl2, hr, hm⟩ := he
    exact h x hr _ w2 (ha.put _ hd') hm
  | some b =>
    have : b = false := by cases b <;> simp_all
    subst this
    dsimp only
    rw [if_pos hw1]
    intro w' hl
    unfold Oper.wp
    rw [run_callv (fst := #[]) (cap := #[]) rfl ha rfl hf hbody hx]
    refine Calls.mono (hc' w' (hw.later hl)) fun e w2 he => ?_
    obtain ⟨x, rfl, hl2, hr, hm⟩ := he
    exact ⟨hl2, h x hr _ w2 (ha.put _ hd') hm⟩
end
end Go.PK

namespace Go.PK
open Go Go.RowKit
def hasC (c : UInt8) (l : List Sb) : Bool := l.any fun s => decide (s.code = c)
def setC (c : UInt8) (t : ByteArray) : List Sb → List Sb
  | [] => []
  | s :: l => if s.code = c then ⟨c, t⟩ :: l else s :: setC c t l
def txtC (c : UInt8) : List Sb → ByteArray
  | [] => ⟨#[]⟩
  | s :: l => if s.code = c then s.text else txtC c l
theorem subI_cons (c : UInt8) (s : Sb) (l : List Sb) : subI c (s :: l) = if s.code = c then 0 else if 0 ≤ subI c l then subI c l + 1 else subI c l := by
  unfold subI fidx
  rw [List.findIdx?_cons]
  by_cases h : s.code = c
  · rw [if_pos h, decide_eq_true h]; rfl
  · rw [if_neg h, decide_eq_false h]
    cases hq : l.findIdx? (fun s : Sb => decide (s.code = c)) with
    | none => rfl
    | some j =>
      show ((j + 1 : Nat) : Int) = _
      rw [if_pos (by show (0 : Int) ≤ (j : Nat); omega)]
      show ((j + 1 : Nat) : Int) = ((j : Nat) : Int) + 1
      omega
theorem subI_has (c : UInt8) : ∀ l : List Sb, (0 ≤ subI c l ↔ hasC c l = true) ∧ (¬0 ≤ subI c l → subI c l = -1)
  | [] => ⟨⟨fun h => absurd h (by show ¬(0 : Int) ≤ -1; decide), fun h => by cases h⟩, fun _ => rfl⟩
  | s :: l => by
    obtain ⟨h1, h2⟩ := subI_has c l
    rw [subI_cons]
    have e : hasC c (s :: l) = (decide (s.code = c) || hasC c l) := rfl
    rw [e]
    by_cases h : s.code = c
    · rw [if_pos h, decide_eq_true h]
      exact ⟨⟨fun _ => rfl, fun _ => Int.le_refl _⟩, fun h => absurd (Int.le_refl _) h⟩
    · rw [if_neg h, decide_eq_false h, Bool.false_or, ← h1]
      by_cases h0 : 0 ≤ subI c l
      · rw [if_pos h0]; exact ⟨⟨fun _ => h0, fun _ => by omega⟩, fun h => absurd (by omega) h⟩
      · rw [if_neg h0]; exact ⟨⟨fun h => h, fun h => h⟩, h2⟩
theorem set_setC (c : UInt8) (t : ByteArray) : ∀ l : List Sb, 0 ≤ subI c l → l.set (subI c l).toNat ⟨c, t⟩ = setC c t l
  | [], h => absurd h (by show ¬(0 : Int) ≤ -1; decide)
  | s :: l, h => by
    rw [subI_cons] at h ⊢
    unfold setC
    by_cases h1 : s.code = c
    · rw [if_pos h1, if_pos h1]; rfl
    · rw [if_neg h1] at h ⊢
      rw [if_neg h1]
      by_cases h0 : 0 ≤ subI c l
      · rw [if_pos h0, show (subI c l + 1).toNat = (subI c l).toNat + 1 by omega, List.set_cons_succ, set_setC c t l h0]
      · rw [if_neg h0] at h; exact absurd h h0
theorem txtI_txtC (c : UInt8) : ∀ l : List Sb, 0 ≤ subI c l → txtI l (subI c l) = txtC c l
  | [], h => absurd h (by show ¬(0 : Int) ≤ -1; decide)
  | s :: l, h => by
    rw [subI_cons] at h ⊢
    unfold txtC
    by_cases h1 : s.code = c
    · rw [if_pos h1, if_pos h1]; rfl
    · rw [if_neg h1] at h ⊢
      rw [if_neg h1]
      by_cases h0 : 0 ≤ subI c l
      · rw [if_pos h0, ← txtI_txtC c l h0]
        unfold txtI
        rw [show (subI c l + 1).toNat = (subI c l).toNat + 1 by omega, List.getElem?_cons_succ]
      · rw [if_neg h0] at h; exact absurd h h0
theorem txtC_no (c : UInt8) : ∀ l : List Sb, hasC c l = false → txtC c l = ⟨#[]⟩
  | [], _ => rfl
  | s :: l, h => by
    have h' : (decide (s.code = c) || hasC c l) = false := h
    rw [Bool.or_eq_false_iff] at h'
    unfold txtC
    rw [if_neg (of_decide_eq_false h'.1), txtC_no c l h'.2]
theorem setC_no (c : UInt8) (t : ByteArray) : ∀ l : List Sb, hasC c l = false → setC c t l = l
  | [], _ => rfl
  | s :: l, h => by
    have h' : (decide (s.code = c) || hasC c l) = false := h
    rw [Bool.or_eq_false_iff] at h'
    unfold setC
    rw [if_neg (of_decide_eq_false h'.1), setC_no c t l h'.2]
theorem setC_has (c d : UInt8) (t : ByteArray) : ∀ l : List Sb, hasC d (setC c t l) = hasC d l
  | [] => rfl
  | s :: l => by
    unfold setC
    by_cases h : s.code = c
    · rw [if_pos h]
      show (decide (c = d) || hasC d l) = (decide (s.code = d) || hasC d l)
      rw [h]
    · rw [if_neg h]
      show (decide (s.code = d) || hasC d (setC c t l)) = (decide (s.code = d) || hasC d l)
      rw [setC_has c d t l]
theorem putS_eq (c : UInt8) (t : ByteArray) (b : Bool) (l : List Sb) : putS c t b l = if hasC c l = true then setC c t l else if b then ⟨c, t⟩ :: l else l ++ [⟨c, t⟩] := by
  unfold putS
  by_cases h : 0 ≤ subI c l
  · rw [if_pos h, if_pos ((subI_has c l).1.1 h), set_setC c t l h]
  · rw [if_neg h, if_neg (fun h2 => h ((subI_has c l).1.2 h2))]
def chgL (name num : ByteArray) : Bool → Bool → List Sb → List Sb
  | _, _, [] => []
  | nm, nb, s :: l => (if s.code = 97 ∧ nm = false then ⟨97, name⟩ else if s.code = 48 ∧ nb = false then ⟨48, num⟩ else s) :: chgL name num (nm || decide (s.code = 97)) (nb || decide (s.code = 48)) l
def optC (b : Bool) (c : UInt8) (t : ByteArray) (l : List Sb) : List Sb := if b then l else setC c t l
theorem chgL_set (name num : ByteArray) : ∀ (l : List Sb) (nm nb : Bool), chgL name num nm nb l = optC nb 48 num (optC nm 97 name l)
  | [], nm, nb => by cases nm <;> cases nb <;> rfl
  | s :: l, nm, nb => by
    have ih := chgL_set name num l
    unfold chgL
    rw [ih]
    by_cases h1 : s.code = 97
    · have h2 : ¬s.code = 48 := by rw [h1]; decide
      cases nm <;> cases nb <;> simp [optC, setC, h1]
    · by_cases h2 : s.code = 48
      · cases nm <;> cases nb <;> simp [optC, setC, h2]
      · cases nm <;> cases nb <;> simp [optC, setC, h1, h2]
theorem chg_rew (hs : List HG) (h : Int) (l : List Sb) : rewS hs h l = (if hasC 48 l = true then (if hasC 97 l = true then chgL (nameF hs h).1 (itoaS h) false false l else ⟨97, (nameF hs h).1⟩ :: chgL (nameF hs h).1 (itoaS h) false false l) else (if hasC 97 l = true then chgL (nameF hs h).1 (itoaS h) false false l else ⟨97, (nameF hs h).1⟩ :: chgL (nameF hs h).1 (itoaS h) false false l) ++ [⟨48, itoaS h⟩]) := by
  unfold rewS
  rw [chgL_set, putS_eq 97, putS_eq 48]
  generalize (nameF hs h).1 = nm
  generalize itoaS h = nu
  show _ = (if hasC 48 l = true then (if hasC 97 l = true then setC 48 nu (setC 97 nm l) else ⟨97, nm⟩ :: setC 48 nu (setC 97 nm l)) else (if hasC 97 l = true then setC 48 nu (setC 97 nm l) else ⟨97, nm⟩ :: setC 48 nu (setC 97 nm l)) ++ [⟨48, nu⟩])
  by_cases h97 : hasC 97 l = true
  · rw [if_pos h97, setC_has]
    simp only [if_pos h97]
    by_cases h48 : hasC 48 l = true
    · rw [if_pos h48, if_pos h48]
    · rw [if_neg h48, if_neg h48, setC_no 48 nu _ (by rw [setC_has]; simpa using h48)]; rfl
  · have h97' : hasC 97 l = false := by simpa using h97
    have e : hasC 48 (⟨97, nm⟩ :: l) = hasC 48 l := by show (decide ((97 : UInt8) = 48) || hasC 48 l) = hasC 48 l; rw [decide_eq_false (by decide), Bool.false_or]
    rw [if_neg h97]
    simp only [if_neg h97]
    rw [setC_no 97 nm l h97', if_pos trivial, e]
    by_cases h48 : hasC 48 l = true
    · rw [if_pos h48, if_pos h48]; rfl
    · rw [if_neg h48, if_neg h48, setC_no 48 nu l (by simpa using h48)]; rfl
theorem numH_nil {hs : List HG} (hn : (hs.map (·.id)).Nodup) (hp : ∀ h ∈ hs, 1 ≤ h.id ∧ h.id < 1000000000000000000) : numH hs ⟨#[]⟩ = none := by
  cases h : numH hs ⟨#[]⟩ with
  | none => rfl
  | some id =>
    have h1 := ((numH_iff hn hp id).1 h).1
    rw [show atoB8 ⟨#[]⟩ = false from by rfl] at h1
    cases h1
theorem foldS_nil : foldS ⟨#[]⟩ = ⟨#[]⟩ := by rfl
theorem hdF_eq {hs : List HG} (hn : (hs.map (·.id)).Nodup) (hp : ∀ h ∈ hs, 1 ≤ h.id ∧ h.id < 1000000000000000000) (l : List Sb) : hdF hs l = match numH hs (txtC 48 l) with | some id => (id, true) | none => findF hs (txtC 97 l) := by
  have e1 : (if 0 ≤ subI 48 l then numH hs (txtI l (subI 48 l)) else none) = numH hs (txtC 48 l) := by
    by_cases h : 0 ≤ subI 48 l
    · rw [if_pos h, txtI_txtC 48 l h]
    · rw [if_neg h, txtC_no 48 l (by have := (subI_has 48 l).1; simpa using fun h2 => h (this.2 h2)), numH_nil hn hp]
  have e2 : (if 0 ≤ subI 97 l then findF hs (txtI l (subI 97 l)) else (0, false)) = findF hs (txtC 97 l) := by
    by_cases h : 0 ≤ subI 97 l
    · rw [if_pos h, txtI_txtC 97 l h]
    · rw [if_neg h, txtC_no 97 l (by have := (subI_has 97 l).1; simpa using fun h2 => h (this.2 h2))]
      unfold findF
      rw [if_pos (by rw [foldS_nil]; rfl)]
  unfold hdF
  rw [e1, e2]
  all_goals (cases numH hs (txtC 48 l) <;> rfl)
theorem findF_lk {hs : List HG} (ha : Acy hs) (t : ByteArray) : ((findF hs t).2 = true → ∃ g, lkH hs (findF hs t).1 = some g) ∧ ((findF hs t).2 = false → (findF hs t).1 = 0) := by
  have key : ∀ p : HG → Bool, leastB p hs ≠ 0 → ∃ g, lkH hs (leastB p hs) = some g := fun p h0 => by
    rcases leastB_is p hs (fun h hh => (ha.pos h hh).1) with ⟨h1, _⟩ | ⟨⟨h, h1, _, h2⟩, _⟩
    · exact absurd h1 h0
    · exact ⟨h, by rw [← h2]; exact lkH_of ha.ids h1⟩
  unfold findF
  split
  · exact ⟨fun h => (by cases h), fun _ => rfl⟩
  · refine ⟨fun h => ?_, fun h => ?_⟩
    · have h1 : findT hs (foldS t) ≠ 0 := of_decide_eq_true h
      show ∃ g, lkH hs (findT hs (foldS t)) = some g
      unfold findT at h1 ⊢
      split
      · rename_i h2
        rw [if_pos h2] at h1
        exact key _ h1
      · rename_i h2
        exact key _ h2
    · have h1 : ¬findT hs (foldS t) ≠ 0 := of_decide_eq_false h
      exact Decidable.not_not.1 h1
theorem hdF_lk {hs : List HG} (ha : Acy hs) (hp : ∀ h ∈ hs, h.id < 1000000000000000000) (l : List Sb) (ws : List ByteArray) : (resolveF hs ws (hdF hs l).1).2 = (hdF hs l).2 ∧ ((hdF hs l).2 = true → (resolveF hs ws (hdF hs l).1).1 = resF hs ws (hdF hs l).1 ∧ ∃ g, lkH hs (hdF hs l).1 = some g) := by
  have hp2 : ∀ h ∈ hs, 1 ≤ h.id ∧ h.id < 1000000000000000000 := fun h hh => ⟨(ha.pos h hh).1, hp h hh⟩
  have key : ((hdF hs l).2 = true → ∃ g, lkH hs (hdF hs l).1 = some g) ∧ ((hdF hs l).2 = false → (hdF hs l).1 = 0) := by
    rw [hdF_eq ha.ids hp2]
    cases h : numH hs (txtC 48 l) with
    | some id =>
      exact ⟨fun _ => Option.isSome_iff_exists.1 ((numH_iff ha.ids hp2 id).1 h).2.2.2, fun h => by cases h⟩
    | none => exact findF_lk ha _
  cases hb : (hdF hs l).2 with
  | true =>
    obtain ⟨g, hg⟩ := key.1 hb
    unfold resolveF
    rw [hg]
    exact ⟨rfl, fun _ => ⟨rfl, g, rfl⟩⟩
  | false =>
    have h0 := key.2 hb
    have hl : lkH hs 0 = none := by
      cases hq : lkH hs 0 with
      | none => rfl
      | some g =>
        obtain ⟨m1, m2⟩ := lkH_mem hq
        have := (ha.pos g m1).1
        omega
    rw [h0]
    unfold resolveF
    rw [hl]
    exact ⟨rfl, fun h => by cases h⟩
def fl0 : Fl := ⟨⟨#[]⟩, ⟨#[]⟩, ⟨#[]⟩, []⟩
def fstF (gs : List Fl) : Fl := match gs.find? (fun f => decide (f.tag = tagT)) with | some f => f | none => fl0
def isAB (s : Sb) : Bool := decide (s.code = 97 ∨ s.code = 98)
def txtS (l : List Sb) : List ByteArray := (l.filter isAB).map (·.text)
def ttlR (gs : List Fl) : ByteArray := joinS (txtS (fstF gs).subs)
theorem txtS_succ {l : List Sb} {k : Nat} (h : k < l.length) : txtS (l.take (k + 1)) = if isAB l[k] = true then txtS (l.take k) ++ [l[k].text] else txtS (l.take k) := by
  unfold txtS
  rw [List.take_succ_eq_append_getElem h, List.filter_append, List.map_append]
  by_cases h1 : isAB l[k] = true
  · rw [if_pos h1, List.filter_cons_of_pos h1]; rfl
  · rw [if_neg h1, List.filter_cons_of_neg h1]; simp
theorem txtS_len (l : List Sb) : (txtS l).length ≤ l.length := by unfold txtS; rw [List.length_map]; exact List.length_filter_le _ _
theorem joinS_sz (M : Nat) : ∀ l : List ByteArray, (∀ t ∈ l, t.size ≤ M) → (joinS l).size ≤ l.length * (M + 1)
  | [], _ => Nat.zero_le _
  | [a], h => by have := h a (.head _); show a.size ≤ 1 * (M + 1); omega
  | a :: c :: l, h => by
    have h1 := h a (.head _)
    have h2 := joinS_sz M (c :: l) fun t ht => h t (.tail _ ht)
    show (a ++ spcB ++ joinS (c :: l)).size ≤ _
    rw [ByteArray.size_append, ByteArray.size_append, show spcB.size = 1 from rfl, List.length_cons, Nat.add_mul, Nat.one_mul]
    omega
theorem fstF_mem {gs : List Fl} : fstF gs ∈ gs ∨ fstF gs = fl0 := by
  unfold fstF
  cases h : gs.find? (fun f => decide (f.tag = tagT)) with
  | some f => exact .inl (List.mem_of_find?_eq_some h)
  | none => exact .inr rfl
theorem titF_fst (gs : List Fl) : titF gs = titS (fstF gs).subs := by
  unfold titF fstF
  cases gs.find? (fun f => decide (f.tag = tagT)) <;> rfl
theorem fstF_at {gs : List Fl} {k : Nat} (h : k < gs.length) (ht : gs[k].tag = tagT) (hn : ∀ j (hj : j < gs.length), j < k → decide (gs[j].tag = tagT) = false) : fstF gs = gs[k] := by
  have e : gs.find? (fun f => decide (f.tag = tagT)) = some gs[k] := List.find?_eq_some_iff_getElem.2 ⟨decide_eq_true ht, k, h, rfl, fun j hj => by rw [hn j (by omega) hj]; rfl⟩
  unfold fstF
  rw [e]
theorem fstF_no {gs : List Fl} (hn : ∀ j (hj : j < gs.length), decide (gs[j].tag = tagT) = false) : fstF gs = fl0 := by
  have e : gs.find? (fun f => decide (f.tag = tagT)) = none := List.find?_eq_none.2 fun x hx => by
    obtain ⟨j, hj, rfl⟩ := List.getElem_of_mem hx
    rw [hn j hj]; exact Bool.false_ne_true
  unfold fstF
  rw [e]
theorem words_one : ((⟨#[]⟩ :: (namesR ++ [⟨#[84, 111, 109, 32, 83, 97, 119, 121, 101, 114]⟩, ⟨#[79, 108, 100, 32, 115, 111, 110, 103, 115]⟩, ⟨#[65, 32, 98, 111, 111, 107, 32, 111, 102, 32, 109, 117, 115, 105, 99]⟩, ⟨#[83, 79, 78, 71, 83, 32, 111, 102, 32, 84, 111, 109]⟩])).all fun t => decide (wordsP (⟨#[]⟩ ++ (spcB ++ t)) = wordsP t) && decide (wordsP (⟨#[]⟩ ++ (spcB ++ t) ++ (spcB ++ t)) = wordsP (t ++ spcB ++ t))) = true := by kernel_rfl
end Go.PK

namespace Go.PK
open Go Go.RowKit
section
variable {P : Program} {n : Nat} {l : List (Nat × Value)} {own oF : List (Nat × Obj)} {ro rF : List Snap} {lops : List Oper} {Q : Exit → Act → World → Prop} {K : Act → World → Prop} {i d : Nat} {t e : Pl} {op : Op} {ty : TypeId} {pos : String} {af : Array Edge}
theorem k_run {o : Oper} (ho : lops[i]? = some o) (hgo : Go_ lops n l o) (hd0 : o.dst = some d) (hd : decide (d < n) = true) {v : Value} (hv : OpV P n l oF rF o.op o.type v)
    (h : S (wpJ P lops.toArray oF rF K t) n ((d, v) :: l) own ro) : S (wpJ P lops.toArray oF rF K (.flt i t)) n l own ro := fun a w ha hw => by
  have hd' : d < n := of_decide_eq_true hd
  unfold wpJ
  simp only [List.getElem?_toArray, ho]
  rw [if_pos (hgo a ha)]
  refine ⟨v, fun w' hw' => ?_, by rw [hd0]; exact h _ w (ha.put v hd') hw⟩
  unfold fltAt
  rw [hv a w' _ ha hw' rfl rfl]
  exact ⟨rfl, rfl⟩
theorem k_val (ho : lops[i]? = some ⟨some d, op, ty, pos, af, none⟩) (hd : decide (d < n) = true) {v : Value} (hv : OpV P n l oF rF op ty v)
    (h : S (wpJ P lops.toArray oF rF K t) n ((d, v) :: l) own ro) : S (wpJ P lops.toArray oF rF K (.flt i t)) n l own ro := k_run ho (go_none rfl) rfl hd hv h
theorem k_bool (ho : lops[i]? = some ⟨some d, op, ty, pos, af, none⟩) (hd : decide (d < n) = true) {b : Bool} (hv : OpV P n l oF rF op ty (.bool b))
    (h : ∀ c, c = b → S (wpJ P lops.toArray oF rF K t) n ((d, .bool c) :: l) own ro) : S (wpJ P lops.toArray oF rF K (.flt i t)) n l own ro := k_val ho hd hv (h b rfl)
theorem k_gr (h : WX P lops.toArray (fun _ _ _ => False) (fun a w => Mem w oF rF ∧ wpJ P lops.toArray oF rF K t a w) [(none, i)] n l own ro) (he : S (wpJ P lops.toArray oF rF K e) n l own ro) : S (wpJ P lops.toArray oF rF K (.gr i t e)) n l own ro := fun a w ha hw => by
  have h := h a w ha hw
  unfold wpJ
  refine ⟨?_, he a w ha hw⟩
  simp only [wpX] at h
  split <;> rename_i ho <;> simp only [ho] at h
  split <;> rename_i hw'
  · intro w2 h2
    have h := h w2 h2
    rw [if_pos hw'] at h
    exact Oper.wp_mono (fun a' w' hk => hk w' (Later.refl _)) h
  · have h := h w (Later.refl _)
    rw [if_neg hw'] at h
    exact (h w (Later.refl _)).2
theorem k_end (hsub : oF.Sublist own) (hro : ∀ s ∈ rF, s ∈ ro) (h : S (wpJ P lops.toArray oF rF K t) n l own ro) : S (fun a w => Mem w oF rF ∧ wpJ P lops.toArray oF rF K t a w) n l own ro := fun a w ha hw => ⟨hw.less hsub hro, h a w ha hw⟩
theorem k_nil : S (wpJ P lops.toArray oF rF K .nil) n l own ro := fun _ _ _ _ => trivial
theorem k_done {m : Nat} (h : WX P lops.toArray Q (fun a w => Q .normal a w) (tailFrom m lops.length) n l own ro) :
    S (wpJ P lops.toArray oF rF (fun a' w' => ∀ w'', Later w' w'' → wpList P lops.toArray Q (lops.drop m) a' w'') .done) n l own ro :=
  fun a w ha hw w2 h2 => wpList_of_X _ m a w2 rfl (wpX_later h2 (h a w ha hw))
end
end Go.PK

namespace Go.PK
open Go Go.RowKit
section
variable {P : Program} {n : Nat} {l : List (Nat × Value)} {own oF : List (Nat × Obj)} {ro rF : List Snap} {lops : List Oper} {Q : Exit → Act → World → Prop} {K : Act → World → Prop} {rest : List (Option Bool × Nat)} {i d j dj : Nat} {want : Bool} {t e : Pl} {op : Op} {ty : TypeId} {pos : String} {af : Array Edge}
theorem k_valg (ho : lops[i]? = some ⟨some d, op, ty, pos, af, some (j, want)⟩) (hj : (lops[j]?).bind (·.dst) = some dj) (hb : l.lookup dj = some (.bool want)) (hd : decide (d < n) = true) {v : Value} (hv : OpV P n l oF rF op ty v)
    (h : S (wpJ P lops.toArray oF rF K t) n ((d, v) :: l) own ro) : S (wpJ P lops.toArray oF rF K (.flt i t)) n l own ro := k_run ho (go_some rfl hj hb) rfl hd hv h
theorem x_turn_ng {τ : Type} {f : FuncId} {fn : Func} {xs : Array Operand} {tys : Array TypeId} {vs : List Value} (R : τ → Value → World → World → Prop) (O : τ → List (Nat × Obj)) (ho : lops[i]? = some ⟨some d, .call ⟨.value (.func f), xs, tys⟩, ty, pos, af, some (j, want)⟩) (hj : (lops[j]?).bind (·.dst) = some dj) (hb : l.lookup dj = some (.bool want)) (hd : decide (d < n) = true)
    (hf : P.funcs[f]? = some fn) (hbody : (!(fn.name == "runtime.NumGoroutine") && fn.body.isSome) = true) (hx : evs l xs.toList = some vs)
    (hc : ∀ w, Mem w own ro → Calls P f vs.toArray w fun e w' => ∃ v, e = .returned v ∧ ∃ x, R x v w w' ∧ Mem w' (O x) ro)
    (h : ∀ v x w1 w2, Mem w1 own ro → R x v w1 w2 → Mem w2 (O x) ro → WX P lops.toArray Q K rest n ((d, v) :: l) (O x) ((w2, notOwn (O x)) :: ro)) : WX P lops.toArray Q K ((none, i) :: rest) n l own ro := by
  intro a w ha hw
  have hd' : d < n := of_decide_eq_true hd
  have hw1 := go_some (lops := lops) (n := n) (l := l) (o := ⟨some d, .call ⟨.value (.func f), xs, tys⟩, ty, pos, af, some (j, want)⟩) rfl hj hb a ha
  simp only [wpX, List.getElem?_toArray, ho]
  intro w' hl
  rw [if_pos hw1]
  unfold Oper.wp
  rw [run_callv (c := .func f) (fst := #[]) (cap := #[]) rfl ha rfl hf hbody hx]
  have hc' := hc w' (hw.later hl)
  have hc2 : Calls P f ((#[] : Array Value) ++ vs.toArray ++ #[]) w' fun e w2 => ∃ v, e = .returned v ∧ ∃ x, R x v w' w2 ∧ Mem w2 (O x) ro := by simpa using hc'
  refine Calls.mono hc2 fun e w2 he => ?_
  obtain ⟨v, rfl, x, hr, hm⟩ := he
  exact h v x w' w2 (hw.later hl) hr hm _ w2 (ha.put v hd') hm.snap
end
end Go.PK

namespace Go.PK
open Go Go.RowKit
end Go.PK

namespace Go.PK
open Go Go.RowKit
theorem Qz : (∀ (p : Prop) [Decidable p], (decide p = true) = p) ∧ (∀ (p : Prop) [Decidable p], (decide p = false) = ¬p) ∧ (∀ a b : Bool, ((a && b) = true) = (a = true ∧ b = true)) ∧ (∀ a b : Bool, ((a || b) = true) = (a = true ∨ b = true)) ∧ (∀ a b : Bool, ((a && b) = false) = (a = false ∨ b = false)) ∧ (∀ a b : Bool, ((a || b) = false) = (a = false ∧ b = false)) ∧ (∀ b : Bool, ((!b) = true) = (b = false)) ∧ (∀ b : Bool, ((!b) = false) = (b = true)) ∧ (∀ (p : Prop) [Decidable p], (¬¬p) = p) :=
  ⟨fun p _ => decide_eq_true_eq, fun p _ => propext decide_eq_false_iff_not, Bool.and_eq_true, Bool.or_eq_true, fun a b => propext Bool.and_eq_false_iff, fun a b => propext Bool.or_eq_false_iff, Bool.not_eq_true', Bool.not_eq_false', fun p _ => propext Decidable.not_not⟩
theorem Qy : (∀ (a : Bool × Bool) (xs bs : List (Bool × Bool)), (a :: xs) ++ bs = a :: (xs ++ bs)) ∧ (∀ xs : List (Bool × Bool), [] ++ xs = xs) ∧ (∀ v, gvl [] v = v) ∧ (∀ gs v, gvl ((true, true) :: gs) v = gvl gs v) ∧ (∀ gs v, gvl ((false, false) :: gs) v = gvl gs v) := ⟨fun _ _ _ => rfl, fun _ => rfl, gvl_nil, gvl_t, gvl_f⟩
abbrev Vi (n : Int) : Value := .int .i64 n
abbrev Pt (p : Nat) : Value := .pointer (some ⟨p, 0, none⟩)
abbrev Bk (p : Nat) (l : List Value) (t : TypeId) : Nat × Obj := (p, .cells l.toArray t)
theorem Zo {p : Prop} (h : p := by first | omega | (dsimp only; omega)) : p := h
theorem Zh {p : Prop} (h : p := by repeat (first | exact List.Mem.head _ | apply List.Mem.tail)) : p := h
theorem Zi {p : Prop} (h : p := by repeat (first | exact List.Mem.head _ | apply List.Mem.tail | apply List.mem_append_right)) : p := h
theorem Zu {p : Prop} (h : p := by repeat (first | exact Sub.nil | refine Sub.cons rfl ?_)) : p := h
theorem Zk {p : Prop} (h : p := by kernel_rfl) : p := h
theorem Zx {p : Prop} (h : p := by simp only [maxLen]; omega) : p := h
section
variable {P : Program} {n : Nat} {l : List (Nat × Value)} {own : List (Nat × Obj)} {ro : List Snap} {lops : List Oper} {Q : Exit → Act → World → Prop} {K : Act → World → Prop}
  {rest : List (Option Bool × Nat)} {k : Option Bool} {i d j dj : Nat} {op : Op} {ty t : TypeId} {pos : String} {af : Array Edge} {x : Operand} {v : Value} {b c want : Bool}
theorem Xm (h : WX P lops.toArray Q K rest n ((d, v) :: l) own ro) (ho : lops[i]? = some ⟨some d, .move x, ty, pos, af, none⟩ := by exact rfl) (hk : k.getD true = true := by exact rfl) (hd : decide (d < n) = true := by exact rfl) (hx : ev l x = some v := by exact rfl) : WX P lops.toArray Q K ((k, i) :: rest) n l own ro := x_val ho hk hd (v_move hx) h
theorem Xa (h : WX P lops.toArray Q K rest n ((d, v) :: l) own ro) (ho : lops[i]? = some ⟨some d, .assign x, ty, pos, af, none⟩ := by exact rfl) (hk : k.getD true = true := by exact rfl) (hd : decide (d < n) = true := by exact rfl) (hx : ev l x = some v := by exact rfl) : WX P lops.toArray Q K ((k, i) :: rest) n l own ro := x_val ho hk hd (v_assign hx) h
theorem Xv (ho : lops[i]? = some ⟨some d, op, ty, pos, af, none⟩) (hv : OpV P n l own ro op ty v) (h : WX P lops.toArray Q K rest n ((d, v) :: l) own ro) (hk : k.getD true = true := by exact rfl) (hd : decide (d < n) = true := by exact rfl) : WX P lops.toArray Q K ((k, i) :: rest) n l own ro := x_val ho hk hd hv h
theorem Xb (ho : lops[i]? = some ⟨some d, op, ty, pos, af, none⟩) (hv : OpV P n l own ro op ty (.bool b)) (h : ∀ c, c = b → WX P lops.toArray Q K rest n ((d, .bool c) :: l) own ro) (hk : k.getD true = true := by exact rfl) (hd : decide (d < n) = true := by exact rfl) : WX P lops.toArray Q K ((k, i) :: rest) n l own ro := x_bool ho hk hd hv h
theorem Xi (ho : lops[i]? = some ⟨some d, op, ty, pos, af, some (j, want)⟩) (hj : (lops[j]?).bind (·.dst) = some dj) (hb : l.lookup dj = some (.bool b)) (hv : b = want → OpV P n l own ro op ty v) (h : WX P lops.toArray Q K rest n ((d, gvl ([] ++ [(b, want)]) v) :: l) own ro) (hk : k.getD true = true := by exact rfl) (hd : decide (d < n) = true := by exact rfl) : WX P lops.toArray Q K ((k, i) :: rest) n l own ro := x_if [] ho hj hb hk hd (fun hg => hv hg.1) h
theorem Xg (h : WX P lops.toArray Q K rest n ((d, gvl ([] ++ [(b, want)]) v) :: l) own ro) (ho : lops[i]? = some ⟨some d, .move x, ty, pos, af, some (j, want)⟩ := by exact rfl) (hj : (lops[j]?).bind (·.dst) = some dj := by exact rfl) (hb : l.lookup dj = some (.bool b) := by exact rfl) (hk : k.getD true = true := by exact rfl) (hd : decide (d < n) = true := by exact rfl) (hx : b = want → ev l x = some v := by intro hg0; (try subst hg0); (try simp only [Qy]); exact rfl) : WX P lops.toArray Q K ((k, i) :: rest) n l own ro := x_if [] ho hj hb hk hd (fun hg => v_move (hx hg.1)) h
theorem Xj (ho : lops[i]? = some ⟨some d, op, ty, pos, af, some (j, want)⟩) (hj : (lops[j]?).bind (·.dst) = some dj) (hb : l.lookup dj = some (.bool b)) (hv : b = want → OpV P n l own ro op ty (.bool c)) (h : ∀ c', c' = c → WX P lops.toArray Q K rest n ((d, gvl ([] ++ [(b, want)]) (.bool c')) :: l) own ro) (hk : k.getD true = true := by exact rfl) (hd : decide (d < n) = true := by exact rfl) : WX P lops.toArray Q K ((k, i) :: rest) n l own ro := x_ifb [] ho hj hb hk hd (fun hg => hv hg.1) h
theorem Vl {td : TypeDesc} {p o : Nat} (ht : P.underlying t = some td) (hx : ev l x = some (.pointer (some ⟨p, o, none⟩))) (hd : aggT td = false := by exact rfl) (hc : At own ro p o v := by first | exact at_ownL (.head _) rfl | exact at_ownL (.tail _ (.head _)) rfl | exact at_ownL (.tail _ (.tail _ (.head _))) rfl | (apply at_ownL; ((repeat (first | exact List.Mem.head _ | apply List.Mem.tail | apply List.mem_append_right))); rfl) | (refine at_ro (by first | exact .head _ | exact .tail _ (.head _) | exact .tail _ (.tail _ (.head _)) | simp) ?_ (by assumption); trivial)) : OpV P n l own ro (.load t x) ty v := v_load ht hd hx hc
theorem Ze (h : S K n l own ro) : WX P lops.toArray Q K [] n l own ro := x_end h
theorem Zt {y : Code} (h : W P y Q n l own ro) : S (Exit.then (y.wp P Q) Q .normal) n l own ro := h
theorem Zs {x y : Code} (h : W P x (Exit.then (y.wp P Q) Q) n l own ro) : W P (.seq x y) Q n l own ro := w_seq h
theorem Zr {id : Nat} (h : WX P lops.toArray Q (fun a w => Q .normal a w) (tailFrom 0 lops.length) n l own ro) : W P (.region id lops.toArray false) Q n l own ro := rg_text h
theorem Xf {fs : Array Field} {f : Field} {m a off : Nat} (off' : Nat) (ho : lops[i]? = some ⟨some d, .fieldAddr t x j, ty, pos, af, none⟩) (ht : P.underlying t = some (.struct fs)) (hf : fs[j]? = some f) (hs : (P.info? f.type).map (·.size) = some m) (h : WX P lops.toArray Q K rest n ((d, .pointer (some ⟨a, off', none⟩)) :: l) own ro)
    (hm : m ≠ 0 := by decide) (hx : ev l x = some (.pointer (some ⟨a, off, none⟩)) := by exact rfl) (ho' : off + f.offset = off' := by exact rfl) (hk : k.getD true = true := by exact rfl) (hd : decide (d < n) = true := by exact rfl) : WX P lops.toArray Q K ((k, i) :: rest) n l own ro := x_val ho hk hd (v_fieldAddr ht hf hs hm hx ho') h
theorem Xn (h : WX P lops.toArray Q K rest n ((d, v) :: l) own ro) (ho : lops[i]? = some ⟨some d, .nilCheck x, ty, pos, af, none⟩ := by exact rfl) (hk : k.getD true = true := by exact rfl) (hd : decide (d < n) = true := by exact rfl) (hv : OpV P n l own ro (.nilCheck x) ty v := by exact v_nilCheck rfl) : WX P lops.toArray Q K ((k, i) :: rest) n l own ro := x_val ho hk hd hv h
theorem Xe {e : Nat} (h : WX P lops.toArray Q K rest n ((d, v) :: l) own ro) (ho : lops[i]? = some ⟨some d, .extract x e, ty, pos, af, none⟩ := by exact rfl) (hk : k.getD true = true := by exact rfl) (hd : decide (d < n) = true := by exact rfl) (hv : OpV P n l own ro (.extract x e) ty v := by exact v_extract rfl rfl) : WX P lops.toArray Q K ((k, i) :: rest) n l own ro := x_val ho hk hd hv h
theorem Xl {td : TypeDesc} {p o : Nat} (ho : lops[i]? = some ⟨some d, .load t x, ty, pos, af, none⟩) (ht : P.underlying t = some td) (hx : ev l x = some (.pointer (some ⟨p, o, none⟩))) (hc : At own ro p o v) (h : WX P lops.toArray Q K rest n ((d, v) :: l) own ro) (hd' : aggT td = false := by exact rfl) (hk : k.getD true = true := by exact rfl) (hd : decide (d < n) = true := by exact rfl) : WX P lops.toArray Q K ((k, i) :: rest) n l own ro := x_val ho hk hd (v_load ht hd' hx hc) h
end
end Go.PK
