/- Of the proofs of Ytmihkbciilloaaa; see NOTES.md. -/
import Derived.Test.YtmihkbciilloaaaPkDeep2
import Derived.WalkKit
import Derived.ProofKit
import Derived.OpenShut
import Derived.ReadAgain
import Derived.Deep.Slices
/-! The shell of a law that is true whatever its arguments: what comes in, read as data; what is left behind. -/
namespace Go.PK
open Go Go.ChangeShapes Go.WideShapes Go.ChangeAt Go.RowKit
set_option linter.unusedVariables false
section
variable {H : Type} {enc : TypeId × Value → H} {P : Program} {W W' : World}
theorem later_same (hl : PK.Later W W') {p : MemPlace} (hp : p.block < W.heap.size) : W.sameAt W' p := Below.same hl hp
theorem args_after {T : TypeId → Prop} (K : Kids P T) (hz : ∀ t e, T t → P.underlying t = some (.slice e) → 0 < P.cellsOf e) {sp : Nat → Bool} (hl : PK.Later W W') : ∀ {ts : List TypeId} {vs : List Value} {ds : List (DataW H)} {ps : List MemPlace}, (∀ t ∈ ts, T t) →
    DataW.TrodAll enc P W 0 (fun _ => true) true ts vs ds ps → (∀ p ∈ ps, p.block < W.heap.size) → (∀ p ∈ ps, sp p.block = true) → DataW.TrodAll enc P W' 0 sp true ts vs ds ps
  | [], [], [], _, _, h, _, _ => h
  | _ :: _, _ :: _, _ :: _, _, hT, ⟨p, q, h1, h2, e⟩, hlt, hs =>
    ⟨p, q, by
      obtain ⟨n, hn⟩ := h1.respare K hz (hT _ (List.mem_cons.2 (Or.inl rfl))) (fun x hx => hs x (by rw [e]; exact List.mem_append_left _ hx))
      exact ⟨n, DataW.trod_carry n _ _ _ hn (fun x hx => later_same hl (hlt x (by rw [e]; exact List.mem_append_left _ hx)))⟩,
      args_after K hz hl (fun t ht => hT t (List.mem_cons.2 (Or.inr ht))) h2 (fun x hx => hlt x (by rw [e]; exact List.mem_append_right _ hx)) (fun x hx => hs x (by rw [e]; exact List.mem_append_right _ hx)), e⟩
theorem post_of_later {f : Func} {s : ChangeSpec} {apart fresh handsOn again : Bool} {args : Array Value} {v : Value} {ds gs : List (DataW H)} {before pa pv : List MemPlace}
    (hW : DataW.Whole enc P f.params.toList s.vars apart W args.toList ds gs before)
    (hres : ∀ (b : Nat) (sp : Nat → Bool) (hd : Bool), DataW.TrodAll enc P W' b sp hd f.resultTypes.toList (v.resultList f.resultTypes.size) (s.fn H (ds ++ gs)).results [])
    (hargs : ∀ sp : Nat → Bool, (∀ p ∈ before, sp p.block = true) → DataW.TrodAll enc P W' 0 sp true f.params.toList args.toList (s.fn H (ds ++ gs)).args pa)
    (hvars : ∀ sp : Nat → Bool, (∀ p ∈ before, sp p.block = true) → DataW.TrodVars enc P W' sp s.vars (s.fn H (ds ++ gs)).vars pv)
    (hps : before = pa ++ pv) (hl : PK.Later W W')
    (hok : ∀ (j : Nat) (t : TypeId) (r : Value), f.resultTypes[j]? = some t → (v.resultList f.resultTypes.size)[j]? = some r → Value.okWide P W' .any 0 t r) :
    s.post enc P f apart fresh handsOn again W args v W' := by
  have hold : ∀ p ∈ before, (fun b => decide (b < W.heap.size)) p.block = true := fun p hp => by simpa using hW.lt p hp
  have hlt := fun p hp => hW.lt p hp
  refine ⟨ds, gs, before, [], pa, pv, hW, hres _ _ _, hargs _ hold, hvars _ hold, hl.frame _, fun _ => ?_⟩
  · obtain ⟨_, _, _, _, _, hz, hn⟩ := hW
    refine ⟨hok, _, _, ([] ++ pa) ++ pv, ⟨[] ++ pa, pv, trodAll_append (hargs _ (fun _ _ => rfl)) (hres _ _ _), hvars _ (fun _ _ => rfl), rfl, ?_, ?_⟩, ?_⟩
    · intro b off hp
      have hp' := hp
      rw [List.nil_append, ← hps] at hp'
      rw [Below.frozen hl (hlt _ hp')]
      exact hz b off hp'
    · intro ha
      have := hn ha
      rw [hps] at this
      simpa using this
    · intro p hp _
      rw [hps]
      simpa using hp
/-- A law that returned true and left what came in as it was. -/
theorem post_true {f : Func} {s : ChangeSpec} {apart fresh handsOn again : Bool} {args : Array Value} {ds : List (DataW H)} {before : List MemPlace} {tb : TypeId}
    (hK : laidOutB P = true) (hm : mapsRowed P = true) (hsl : ((List.range P.types.size).all fun t => match P.underlying t with | some (.slice e) => decide (0 < P.cellsOf e) | _ => true) = true)
    (hts : (f.params.toList.all fun t => decide (t < P.types.size)) = true) (hrt : f.resultTypes = #[tb]) (hb : P.underlying tb = some .bool) (hv : s.vars = [])
    (hW : DataW.Whole enc P f.params.toList s.vars apart W args.toList ds [] before) (hfn : s.fn H ds = { results := [.lit (.bool true)], args := ds }) (hl : PK.Later W W') :
    s.post enc P f apart fresh handsOn again W args (.bool true) W' := by
  have hW' := hW
  have hlt : ∀ p ∈ before, p.block < W.heap.size := fun p hp => hW.lt p hp
  obtain ⟨p, q, hA, hV, hpq, hfz, hnd⟩ := hW
  rw [hv] at hV
  obtain ⟨_, rfl⟩ := trodVars_none hV
  rw [List.append_nil] at hpq
  subst hpq
  refine post_of_later (pa := before) (pv := []) hW' (fun _ _ _ => ?_) (fun sp hsp => ?_) (fun _ _ => ?_) (by simp) hl (ok_one hrt rfl (okWide_bool_mk hb _))
  · rw [List.append_nil, hfn, hrt]; exact trodAll_cons_mk (shut_bool hb _) trodAll_mk0
  · rw [List.append_nil, hfn]
    exact args_after (kids_rows hK hm) (slices_full_of P hsl) hl (fun t ht => of_decide_eq_true (List.all_eq_true.1 hts t ht)) hA hlt hsp
  · rw [List.append_nil, hfn, hv]; exact rfl
/-- What lies behind a type reads as data. -/
structure Rdr {α : Type} (P : Program) (t : TypeId) (T : Ty α) : Prop where
  size : P.cellsOf t = T.size
  pos : 0 < T.size
  rd : ∀ {H : Type} {enc : TypeId × Value → H} {w : World} {base : Nat} {sp : Nat → Bool} {held : Bool} {fuel : Nat} {cs : List Value} {x : DataW H × List MemPlace}, DataW.trod enc P w base sp held fuel t cs = some x → ∃ y, T.rd (fun _ => True) w cs y
theorem wf_in64 {n : Int} (h : (Lit.int .i64 n).wf = true) : in64 n := by
  simp only [Lit.wf, Bool.and_eq_true, decide_eq_true_eq] at h
  have h1 : IntKind.i64.min = -9223372036854775808 := by decide
  have h2 : IntKind.i64.max = 9223372036854775807 := by decide
  unfold in64; omega
def tyI : Ty Int where
  size := 1
  rd := fun _ _ cs x => cs = [.int .i64 x] ∧ in64 x
  len := fun h => by rw [h.1]; rfl
  keep := fun h _ => h
theorem rdr_i {t : TypeId} (ht : P.underlying t = some (.int .i64)) (hc : P.cellsOf t = 1) : Rdr P t tyI :=
  ⟨hc, Nat.one_pos, fun h => by obtain ⟨n, rfl, _, hw⟩ := DataW.trod_int ht h; exact ⟨n, rfl, wf_in64 hw⟩⟩
theorem rdr_s {t : TypeId} (ht : P.underlying t = some .string) (hc : P.cellsOf t = 1) : Rdr P t tyStr :=
  ⟨hc, Nat.one_pos, fun h => by obtain ⟨s, rfl, _, hw⟩ := DataW.trod_string ht h; exact ⟨s, rfl, by unfold maxLen at hw; unfold okS; omega⟩⟩
theorem trod_arrG {t e : TypeId} {n fuel base : Nat} {sp : Nat → Bool} {held : Bool} {w : World} {cs : List Value} {x : DataW H × List MemPlace} (ht : P.underlying t = some (.array n e)) (h : DataW.trod enc P w base sp held fuel t cs = some x) :
    ∃ m xs, cs.length = P.cellsOf t ∧ ((List.range n).mapM fun i => DataW.trod enc P w base sp held m e ((cs.drop (i * P.cellsOf e)).take (P.cellsOf e))) = some xs := by
  cases fuel with
  | zero => simp [DataW.trod] at h
  | succ m =>
    unfold DataW.trod at h
    rw [ht] at h
    split at h <;> simp_all
    obtain ⟨hl, xs, hp, hd⟩ := h
    exact ⟨m, xs, hp⟩
/-- An array of n values of one cell. -/
theorem trod_arr1 {t e : TypeId} {n fuel base : Nat} {sp : Nat → Bool} {held : Bool} {w : World} {cs : List Value} {x : DataW H × List MemPlace} (ht : P.underlying t = some (.array n e)) (hn : P.cellsOf t = n) (he : P.cellsOf e = 1) (h : DataW.trod enc P w base sp held fuel t cs = some x) :
    cs.length = n ∧ ∀ i (hi : i < cs.length), ∃ m y, DataW.trod enc P w base sp held m e [cs[i]] = some y := by
  obtain ⟨m, xs, hl, hx⟩ := trod_arrG ht h
  rw [hn] at hl
  refine ⟨hl, fun i hi => ?_⟩
  have h3 := mapM_some_get hx i i (by rw [List.getElem?_range (by omega)])
  have hxl : xs.length = n := by simpa using mapM_some_length hx
  rw [he, Nat.mul_one, List.getElem?_eq_getElem (by omega), List.drop_eq_getElem_cons hi] at h3
  exact ⟨m, _, h3⟩
theorem rdr_i4 {t e : TypeId} (ht : P.underlying t = some (.array 4 e)) (hn : P.cellsOf t = 4) (he : P.cellsOf e = 1) (hi : P.underlying e = some (.int .i64)) : Rdr P t tyI4 :=
  ⟨hn, by show 0 < 4; omega, @fun H enc w base sp held fuel cs x h => by
    obtain ⟨hl, hc⟩ := trod_arr1 ht hn he h
    match hcs : cs, hl with
    | [a, b, c, d], _ =>
      obtain ⟨_, _, ha⟩ := hc 0 (by simp)
      obtain ⟨_, _, hb⟩ := hc 1 (by simp)
      obtain ⟨_, _, hc'⟩ := hc 2 (by simp)
      obtain ⟨_, _, hd⟩ := hc 3 (by simp)
      obtain ⟨a', e1, _, w1⟩ := DataW.trod_int hi ha
      obtain ⟨b', e2, _, w2⟩ := DataW.trod_int hi hb
      obtain ⟨c', e3, _, w3⟩ := DataW.trod_int hi hc'
      obtain ⟨d', e4, _, w4⟩ := DataW.trod_int hi hd
      simp only [List.getElem_cons_zero, List.getElem_cons_succ, List.cons.injEq, and_true] at e1 e2 e3 e4
      subst e1 e2 e3 e4
      exact ⟨⟨a', b', c', d'⟩, rfl, wf_in64 w1, wf_in64 w2, wf_in64 w3, wf_in64 w4⟩⟩
/-- A slice. -/
theorem trod_rd {α : Type} {T : Ty α} {t e : TypeId} {fuel base : Nat} {sp : Nat → Bool} {held : Bool} {w : World} {cs : List Value} {x : DataW H × List MemPlace} (ht : P.underlying t = some (.slice e)) (R : Rdr P e T) (h : DataW.trod enc P w base sp held fuel t cs = some x) :
    ∃ v xs, cs = [v] ∧ sliceRd T (fun _ => True) w v xs ∧ ∃ a l c, v = .slice a l c := by
  rcases Go.Deep.open_slice ht h with ⟨rfl, _⟩ | ⟨a, len, cap, m, n, D, Pl, rfl, hb, hl, hm, hmm, _, hx⟩
  · exact ⟨_, [], rfl, ⟨none, 0, rfl, Nat.le_refl _, Nat.zero_le _, fun h => by simp at h⟩, _, _, _, rfl⟩
  · have hlm : len ≤ m := by rw [hmm]; split <;> omega
    have hx' : ∀ i, i < len → ∃ p : List Value × α, w.cells? base (a.add (i * P.cellsOf e)) (P.cellsOf e) = some p.1 ∧ T.rd (fun _ => True) w p.1 p.2 := fun i hi => by
      obtain ⟨cs', h1, h2⟩ := hx i (by omega)
      obtain ⟨y, hy⟩ := R.rd h2
      exact ⟨⟨cs', y⟩, h1, hy⟩
    rcases Nat.eq_zero_or_pos len with h0 | h0
    · subst h0
      exact ⟨_, [], rfl, ⟨some a, cap, rfl, Nat.zero_le _, Nat.zero_le _, fun h => by simp at h⟩, _, _, _, rfl⟩
    · have hspot : a.spot = none := by
        obtain ⟨p, h1, h2⟩ := hx' 0 h0
        have hpl : 0 < P.cellsOf e := by rw [R.size]; exact R.pos
        unfold World.cells? at h1
        split at h1
        · have := mapM_some_get h1 0 0 (by rw [List.getElem?_range hpl])
          have hlen : p.1.length = P.cellsOf e := by simpa using mapM_some_length h1
          rw [List.getElem?_eq_getElem (by omega)] at this
          have e0 : (a.add (0 * P.cellsOf e)).add 0 = a := by simp [Addr.add]
          rw [e0] at this
          unfold World.cell? at this
          split at this
          · split at this
            · cases this
            · rename_i hns; simpa using hns
          · cases this
        · cases h1
      obtain ⟨b, off, sp'⟩ := a
      simp only at hspot
      subst hspot
      let F : (i : Nat) → (i < len) → List Value × α := fun i hi => (hx' i hi).choose
      have hF : ∀ i (hi : i < len), w.cells? base ((⟨b, off, none⟩ : Addr).add (i * P.cellsOf e)) (P.cellsOf e) = some (F i hi).1 ∧ T.rd (fun _ => True) w (F i hi).1 (F i hi).2 := fun i hi => (hx' i hi).choose_spec
      refine ⟨_, List.ofFn (fun i : Fin len => (F i.1 i.2).2), rfl, ⟨_, cap, by rw [List.length_ofFn], by rw [List.length_ofFn]; exact hl, by rw [List.length_ofFn]; unfold maxLen at hm; omega, fun _ => ⟨b, off, rfl, trivial, ?_, fun j hj => ?_⟩⟩, _, _, _, rfl⟩
      · obtain ⟨h1, h2⟩ := hF 0 h0
        have hpl : 0 < P.cellsOf e := by rw [R.size]; exact R.pos
        unfold World.cells? at h1
        split at h1
        · have := mapM_some_get h1 0 0 (by rw [List.getElem?_range hpl])
          have hlen : (F 0 h0).1.length = P.cellsOf e := by simpa using mapM_some_length h1
          rw [List.getElem?_eq_getElem (by omega)] at this
          have := cell_lt this
          simpa [Addr.add] using this
        · cases h1
      · have hj' : j < len := by simpa using hj
        obtain ⟨h1, h2⟩ := hF j hj'
        refine ⟨(F j hj').1, fun i hi => ?_, by simpa using h2⟩
        unfold World.cells? at h1
        split at h1
        · have hlen : (F j hj').1.length = P.cellsOf e := by simpa using mapM_some_length h1
          have := mapM_some_get h1 i i (by rw [List.getElem?_range (by omega)])
          rw [List.getElem?_eq_getElem hi, mk_add, mk_add, R.size] at this
          exact this
        · cases h1
end
/-! ## The arguments of a law -/
section
variable {H : Type} {enc : TypeId × Value → H} {P : Program} {W : World} {base b0 : Nat} {sp : Nat → Bool} {held : Bool} {r : Reach} {t e : TypeId} {v : Value} {d : DataW H} {ps : List MemPlace}
theorem top_slice {α : Type} {T : Ty α} (ht : P.underlying t = some (.slice e)) (R : Rdr P e T) (hval : Value.okWide P W r b0 t v) (h : DataW.Trod enc P W base sp held t v d ps) : ∃ xs, sliceRd T (fun _ => True) W v xs := by
  obtain ⟨n, hn⟩ := h
  obtain ⟨v', xs, hc, hrd, a, l, c, rfl⟩ := trod_rd ht R hn
  have : v = .slice a l c := by
    cases v <;> simp_all [Value.okWide, Cell.okWide, Cell.ok, Value.cells]
  subst this
  exact ⟨xs, hrd⟩
theorem top_arr {n : Nat} (ht : P.underlying t = some (.array n e)) (hn : P.cellsOf t = n) (he : P.cellsOf e = 1) (hval : Value.okWide P W r b0 t v) (h : DataW.Trod enc P W base sp held t v d ps) :
    ∃ cs : List Value, v = .agg cs.toArray ∧ cs.length = n ∧ ∀ i (hi : i < cs.length), ∃ m y, DataW.trod enc P W base sp held m e [cs[i]] = some y := by
  obtain ⟨m, hm⟩ := h
  have hv : ∃ cs, v = .agg cs := by
    unfold Value.okWide at hval
    rw [ht] at hval
    obtain ⟨cs, h, _⟩ := hval
    exact ⟨cs, h⟩
  obtain ⟨cs, rfl⟩ := hv
  obtain ⟨h1, h2⟩ := trod_arr1 ht hn he hm
  exact ⟨cs.toList, by simp, h1, h2⟩
theorem top_i3 (ht : P.underlying t = some (.array 3 e)) (hn : P.cellsOf t = 3) (he : P.cellsOf e = 1) (hi : P.underlying e = some (.int .i64)) (hval : Value.okWide P W r b0 t v) (h : DataW.Trod enc P W base sp held t v d ps) :
    ∃ a b c : Int, v = .agg #[.int .i64 a, .int .i64 b, .int .i64 c] ∧ in64 a ∧ in64 b ∧ in64 c := by
  obtain ⟨cs, rfl, hl, hc⟩ := top_arr ht hn he hval h
  match hcs : cs, hl with
  | [a, b, c], _ =>
    obtain ⟨_, _, ha⟩ := hc 0 (by simp)
    obtain ⟨_, _, hb⟩ := hc 1 (by simp)
    obtain ⟨_, _, hc'⟩ := hc 2 (by simp)
    obtain ⟨a', e1, _, w1⟩ := DataW.trod_int hi ha
    obtain ⟨b', e2, _, w2⟩ := DataW.trod_int hi hb
    obtain ⟨c', e3, _, w3⟩ := DataW.trod_int hi hc'
    simp only [List.getElem_cons_zero, List.getElem_cons_succ, List.cons.injEq, and_true] at e1 e2 e3
    subst e1 e2 e3
    exact ⟨a', b', c', rfl, wf_in64 w1, wf_in64 w2, wf_in64 w3⟩
theorem top_strs {n : Nat} (ht : P.underlying t = some (.array n e)) (hn : P.cellsOf t = n) (he : P.cellsOf e = 1) (hi : P.underlying e = some .string) (hval : Value.okWide P W r b0 t v) (h : DataW.Trod enc P W base sp held t v d ps) :
    ∃ ss : List ByteArray, v = .agg (ss.map Value.string).toArray ∧ ss.length = n ∧ ∀ s ∈ ss, s.size ≤ maxLen := by
  obtain ⟨cs, rfl, hl, hc⟩ := top_arr ht hn he hval h
  have key : ∀ (cs : List Value), (∀ i (hi : i < cs.length), ∃ m y, DataW.trod enc P W base sp held m e [cs[i]] = some y) → ∃ ss : List ByteArray, cs = ss.map Value.string ∧ ∀ s ∈ ss, s.size ≤ maxLen := by
    intro cs
    induction cs with
    | nil => intro _; exact ⟨[], rfl, by simp⟩
    | cons c cs ih =>
      intro h
      obtain ⟨ss, h1, h2⟩ := ih (fun i hi => by have := h (i + 1) (by simpa using hi); simpa only [List.getElem_cons_succ] using this)
      obtain ⟨m, y, h3⟩ := h 0 (by simp)
      obtain ⟨s, e1, _, hs⟩ := DataW.trod_string hi h3
      simp only [List.getElem_cons_zero, List.cons.injEq, and_true] at e1
      exact ⟨s :: ss, by rw [e1, h1]; rfl, fun u hu => by
        rcases List.mem_cons.1 hu with rfl | hu
        · exact hs
        · exact h2 u hu⟩
  obtain ⟨ss, h1, h2⟩ := key cs hc
  subst h1
  exact ⟨ss, rfl, by simpa using hl, h2⟩
end
end Go.PK
