/- Of the proofs of YtnflcekodobdlaaGreatDoor: PkLst PkNem PkRow8 PkRew PkFl8 PkTurnH PkRw2 PkRw3 PkEnc8 PkRef8 PkTak8 PkSerV PkFld8 PkCmp8 PkLaw8 PkFix8 PkMany8 PkBulk PkOrdT PkBulk2 PkTy8 PkOld8 PkOrd8 PkCir8 PkZ, put together. -/
import Derived.Test.YtnflcekodobdlaaGreatDoorT2
import Derived.Test.YtnflcekodobdlaaGreatDoorT1
import Derived.Lib.AtoiTie
set_option linter.unusedVariables false
set_option linter.unusedSimpArgs false
set_option maxRecDepth 100000

namespace Go.PK
open Go Go.RowKit Go.Maps
def gM (g : ByteArray → Int) : Value → Option Value := fun v => match v with | .string t => if g t = 0 then none else some (.int .i64 (g t)) | _ => none
def lst (g : ByteArray → Int) (ts : List ByteArray) (id : Int) : ByteArray → Int := fun s => if amg ts s = true ∧ (g s = 0 ∨ id < g s) then id else g s
variable {g : ByteArray → Int} {ts : List ByteArray} {t : ByteArray} {id : Int}
theorem gM_zero : gM (fun _ => 0) = fun _ => none := by
  funext v
  unfold gM
  split
  · rw [if_pos rfl]
  · rfl
theorem gM_at (g : ByteArray → Int) (t : ByteArray) : gM g (.string t) = if g t = 0 then none else some (.int .i64 (g t)) := rfl
theorem lst_nil : lst g [] id = g := by
  funext s
  unfold lst
  rw [if_neg (fun h => by cases h.1)]
theorem amg_snoc {s : ByteArray} : amg (ts ++ [t]) s = (amg ts s || decide (t = s)) := by
  unfold amg
  rw [List.any_append]; simp
theorem amg_one {s : ByteArray} : amg [t] s = decide (t = s) := by unfold amg; simp
theorem lst_snoc (h : 1 ≤ id) : lst (lst g ts id) [t] id = lst g (ts ++ [t]) id := by
  funext s
  unfold lst
  rw [amg_snoc, amg_one]
  by_cases h1 : amg ts s = true ∧ (g s = 0 ∨ id < g s)
  · rw [if_pos h1, if_neg (fun h2 => by rcases h2.2 with h3 | h3 <;> omega), if_pos ⟨by rw [h1.1]; rfl, h1.2⟩]
  · rw [if_neg h1]
    by_cases h2 : decide (t = s) = true ∧ (g s = 0 ∨ id < g s)
    · rw [if_pos h2, if_pos ⟨by rw [h2.1, Bool.or_true], h2.2⟩]
    · rw [if_neg h2, if_neg (fun h3 => ?_)]
      rcases Bool.or_eq_true_iff.1 h3.1 with h4 | h4
      · exact h1 ⟨h4, h3.2⟩
      · exact h2 ⟨h4, h3.2⟩
theorem lst_keep (h : ¬(g t = 0 ∨ id < g t)) : lst g [t] id = g := by
  funext s
  unfold lst
  rw [if_neg (fun h2 => ?_)]
  rw [amg_one] at h2
  have := of_decide_eq_true h2.1
  subst this
  exact h h2.2
theorem lst_put (h : g t = 0 ∨ id < g t) (h1 : 1 ≤ id) : gM (lst g [t] id) = fupd (gM g) (.string t) (.int .i64 id) := by
  funext v
  by_cases hv : v = .string t
  · subst hv
    rw [fupd_self, gM_at]
    unfold lst
    have hc : amg [t] t = true ∧ (g t = 0 ∨ id < g t) := ⟨by rw [amg_one]; exact decide_eq_true rfl, h⟩
    rw [if_pos hc, if_neg (by omega)]
  · rw [fupd_ne hv]
    unfold gM
    split
    · rename_i s
      have hs : ¬t = s := fun e => hv (by rw [e])
      unfold lst
      have hn : ¬(amg [t] s = true ∧ (g s = 0 ∨ id < g s)) := fun h2 => hs (of_decide_eq_true (by rw [← amg_one]; exact h2.1))
      rw [if_neg hn]
    · rfl
theorem namedL (hs : List HG) (h : HG) : (fun t => leastB (namedB t) (hs ++ [h])) = lst (fun t => leastB (namedB t) hs) [foldS h.name] h.id := by
  funext t
  rw [leastB_snoc]
  unfold lst
  rw [amg_one]; rfl
theorem alsoL (hs : List HG) (h : HG) : (fun t => leastB (alsoB t) (hs ++ [h])) = lst (fun t => leastB (alsoB t) hs) (h.oth.map foldS) h.id := by
  funext t
  rw [leastB_snoc]; rfl
def entH (gs : List HG) (e : MapEntry) : HG := (lkH gs (kInt e.key)).getD ⟨0, ⟨#[]⟩, [], [], 0⟩
theorem lkM8_some {hs : List HM} {id : Int} : (lkM8 hs id).isSome = true ↔ ∃ i ∈ (gs8 hs).map (·.id), i = id := by
  have h1 := lkM8_g hs id
  constructor
  · intro h
    obtain ⟨y, hy⟩ := Option.isSome_iff_exists.1 h
    rw [hy] at h1
    obtain ⟨h2, h3⟩ := lkH_mem h1
    exact ⟨_, List.mem_map_of_mem h2, h3⟩
  · rintro ⟨i, hi, rfl⟩
    obtain ⟨q, hq, he⟩ := List.mem_map.1 hi
    cases hl : lkM8 hs i with
    | some y => rfl
    | none =>
      rw [hl] at h1
      exact absurd he (lkH_none.1 h1 q hq)
theorem hm_keys {hs : List HM} (hn : ((gs8 hs).map (·.id)).Nodup) : keysIs (hmM hs) ((gs8 hs).map (·.id)) := by
  refine ⟨hn, fun v => ?_⟩
  unfold hmM
  split
  · rename_i id
    rw [Option.isSome_map, lkM8_some]
    constructor
    · rintro ⟨i, hi, rfl⟩; exact ⟨i, hi, rfl⟩
    · rintro ⟨i, hi, he⟩; injection he with _ he; exact ⟨i, hi, he.symm⟩
  · rename_i hv
    constructor
    · intro h; cases h
    · rintro ⟨i, hi, rfl⟩; exact absurd rfl (hv i)
theorem entH_all {P : Program} {kt : TypeId} {es : Array MapEntry} {ck : Nat} {hs : List HM} (h : MapC P kt es ck (hmM hs)) (hn : ((gs8 hs).map (·.id)).Nodup) : (es.toList.map (entH (gs8 hs))).Perm (gs8 hs) := by
  have h1 := (h.keys (hm_keys hn)).map (fun id => (lkH (gs8 hs) id).getD ⟨0, ⟨#[]⟩, [], [], 0⟩)
  rw [List.map_map, List.map_map] at h1
  have h2 : (gs8 hs).map ((fun id => (lkH (gs8 hs) id).getD ⟨0, ⟨#[]⟩, [], [], 0⟩) ∘ fun x => x.id) = gs8 hs := by
    rw [List.map_congr_left (g := id) (fun q hq => ?_), List.map_id]
    show (lkH (gs8 hs) q.id).getD _ = q
    rw [lkH_of hn hq]; rfl
  rw [h2] at h1
  exact h1
theorem entH_at {P : Program} {kt : TypeId} {es : Array MapEntry} {ck : Nat} {hs : List HM} (h : MapC P kt es ck (hmM hs)) {e : MapEntry} (he : e ∈ es.toList) : ∃ a y c, hs = a ++ y :: c ∧ e = ⟨.int .i64 y.g.id, .pointer (some ⟨y.p, 0, none⟩), e.born⟩ ∧ entH (gs8 hs) e = y.g := by
  have h1 := h.entry he
  obtain ⟨k, v, bn⟩ := e
  dsimp only at h1 ⊢
  unfold hmM at h1
  split at h1
  · rename_i id
    cases hl : lkM8 hs id with
    | none => rw [hl] at h1; cases h1
    | some y =>
      rw [hl] at h1
      injection h1 with h1
      obtain ⟨a, c, h2, h3, _⟩ := lkM8_split hl
      refine ⟨a, y, c, h2, by rw [h3, ← h1], ?_⟩
      unfold entH
      have h4 := lkM8_g hs id
      rw [hl] at h4
      show (lkH (gs8 hs) id).getD _ = _
      rw [h4]; rfl
  · cases h1
def szH (M : Nat) (h : HG) : Prop := h.name.size ≤ M ∧ ∀ o ∈ h.oth, o.size ≤ M
theorem sz_acc {M : Nat} {hs hs' : List HG} {f : FD} (h2 : ∀ h ∈ hs, szH M h) (hf : f.txt.size ≤ M) (ha : accS hs f = some hs') : ∀ h ∈ hs', szH M h := by
  unfold accS at ha
  cases hl : lkH hs f.hd with
  | none =>
    rw [hl] at ha
    dsimp only at ha
    split at ha
    · injection ha with ha
      subst ha
      intro h hh
      rcases List.mem_append.1 hh with hh | hh
      · exact h2 h hh
      · rw [List.mem_singleton.1 hh]; exact ⟨hf, fun o ho => (by cases ho)⟩
    · cases ha
  | some g =>
    rw [hl] at ha
    have hg := h2 g (lkH_mem hl).1
    have key : ∀ g' : HG, szH M g' → ∀ h ∈ setH hs g', szH M h := fun g' h' h hh => by
      rcases setH_mem hh with hh | rfl
      · exact h2 h hh
      · exact h'
    have more : ∀ t : ByteArray, t.size ≤ M → ∀ o ∈ g.oth ++ [t], o.size ≤ M := fun t ht o ho => by
      rcases List.mem_append.1 ho with ho | ho
      · exact hg.2 o ho
      · rw [List.mem_singleton.1 ho]; exact ht
    dsimp only at ha
    split at ha
    · cases ha
    split at ha
    · cases ha
    split at ha
    · injection ha with ha; subst ha; exact key _ ⟨hf, more _ hg.1⟩
    split at ha
    · injection ha with ha; subst ha; exact key _ ⟨hg.1, more _ hf⟩
    split at ha
    · cases ha
    split at ha
    · cases ha
    split at ha
    · injection ha with ha; subst ha; exact key _ hg
    · injection ha with ha; subst ha; exact key _ hg
theorem sz_st {M : Nat} : ∀ (fs : List FD) (s : SG8), (∀ h ∈ s.hs, szH M h) → (∀ f ∈ fs, f.txt.size ≤ M) → ∀ h ∈ (fs.foldl applyS s).hs, szH M h
  | [], s, h, _ => h
  | f :: l, s, h, hf => by
    refine sz_st l (applyS s f) ?_ fun q hq => hf q (.tail _ hq)
    unfold applyS
    cases ha : accS s.hs f with
    | none => exact h
    | some hs => exact sz_acc h (hf f (.head _)) ha
theorem sz_stF {M : Nat} {fs : List FD} (hf : ∀ f ∈ fs, f.txt.size ≤ M) : ∀ h ∈ (stF fs).hs, szH M h := sz_st fs _ (fun h hh => (by cases hh)) hf
end Go.PK

namespace Go.PK
open Go Go.RowKit Go.Maps
variable {P : Program} {n : Nat} {l : List (Nat × Value)} {own : List (Nat × Obj)} {ro : List Snap} {t t' ty : TypeId} {x y : Operand}
theorem v_nem {p : Option Nat} {q r : TypeId} (ht : P.underlying t = some (.map q r)) (hx : ev l x = some (.map p)) (hy : ev l y = some (.map none)) : OpV P n l own ro (.binOp .neq t x y t') ty (.bool (!p.isNone)) := by
  intro A w o ha _ ho _
  have h : ∀ d : Nat, (Op.equalIn (d + 1) t (.map p) (.map none)).run P w = .ok p.isNone w := fun d => by
    cases p <;> simp [Op.equalIn, run_underlying ht]
  have h2 : (Op.equal t (.map p) (.map none)).run P w = .ok p.isNone w := h 9999
  simp [execOp, ho, ha.eval hx, ha.eval hy, eqGuard, binOp, h2]
theorem ret0r {fn : Func} {R : Ending → World → Prop} {n : Nat} {l : List (Nat × Value)} {own : List (Nat × Obj)} {ro : List Snap} (hr : fn.results = #[]) (h : ∀ w', Mem w' own ro → R (.returned (.tuple #[])) w') : S (bodyPost P fn R .ret) n l own ro := by
  intro a w ha hw
  exact ⟨ha.df, _, results_none hr _ _ _, h w hw⟩
end Go.PK

namespace Go.PK
open Go Go.RowKit
def rowR (T m : Nat) {α : Type} (c : α → List Value) (R : RowS) (xs : List α) (w : World) : Prop := rowOK m R xs.length (xs.flatMap c) ∧ ∀ q ∈ rowO T R, w.heap[q.1]? = some q.2
section
variable {T m : Nat} {α : Type} {c : α → List Value} {R : RowS} {xs : List α} {w w' : World}
theorem rowR.later (h : rowR T m c R xs w) (hl : Later w w') : rowR T m c R xs w' := ⟨h.1, fun q hq => (hl.block _ (heap_lt (h.2 q hq))).trans (h.2 q hq)⟩
theorem flC_get' (hc : ∀ x, (c x).length = m) : ∀ (l : List α) (k i : Nat) (hk : k < l.length), i < m → (l.flatMap c)[k * m + i]? = (c l[k])[i]?
  | x :: l, 0, i, _, hi => by
    rw [List.flatMap_cons, List.getElem?_append_left (by rw [hc]; omega), Nat.zero_mul, Nat.zero_add]; rfl
  | x :: l, k + 1, i, hk, hi => by
    rw [List.flatMap_cons, List.getElem?_append_right (by rw [hc, Nat.add_mul]; omega), hc, show (k + 1) * m + i - m = k * m + i by rw [Nat.add_mul]; omega]
    exact flC_get' hc l k i (by simpa using hk) hi
theorem row_at (hc : ∀ x, (c x).length = m) (h0 : 0 < m) (h : rowOK m R xs.length (xs.flatMap c)) {k : Nat} (hk : k < xs.length) : ∃ g cs cp, R = some (g, cs, cp) ∧ xs.length ≤ cp ∧ ∀ i, i < m → cs[k * m + i]? = (c xs[k])[i]? := by
  obtain ⟨g, cs, cp, rfl, _⟩ := h.cell (j := 0) (by rw [flC_len hc]; exact Nat.mul_pos (by omega) h0)
  obtain ⟨_, h2, _, h4, h5⟩ := h
  dsimp only at h2 h4 h5
  refine ⟨g, cs, cp, rfl, h2, fun i hi => ?_⟩
  have hlen : k * m + i < xs.length * m := by
    have : (k + 1) * m ≤ xs.length * m := Nat.mul_le_mul_right m hk
    rw [Nat.add_mul] at this
    omega
  rw [← List.getElem?_take_of_lt hlen, h5]
  exact flC_get' hc xs k i hk hi
theorem rowR.cells (hc : ∀ x, (c x).length = m) (h0 : 0 < m) (h : rowR T m c R xs w) {k : Nat} (hk : k < xs.length) : ∃ g cs cp, R = some (g, cs, cp) ∧ xs.length ≤ cp ∧ ∀ i, i < m → w.cell? ⟨g, k * m + i, none⟩ = (c xs[k])[i]? := by
  obtain ⟨g, cs, cp, hR, h2, h3⟩ := row_at hc h0 h.1 hk
  refine ⟨g, cs, cp, hR, h2, fun i hi => ?_⟩
  have hg := h.2 (g, .cells cs.toArray T (0, 0)) (by rw [hR]; exact .head _)
  rw [cell_of_row w g _ _ T (0, 0) hg, List.getElem?_toArray]
  exact h3 i hi
end
theorem Mem.rowR {T m : Nat} {α : Type} {c : α → List Value} {R : RowS} {xs : List α} {w : World} {own : List (Nat × Obj)} {ro : List Snap} (hm : Mem w own ro) (h : rowOK m R xs.length (xs.flatMap c)) (hin : ∀ q ∈ rowO T R, q ∈ own) : PK.rowR T m c R xs w := ⟨h, fun q hq => hm.own_at q (hin q hq)⟩
theorem flat1 {α : Type} (f : α → Value) (l : List α) : l.flatMap (fun x => [f x]) = l.map f := by
  induction l with
  | nil => rfl
  | cons x xs ih => rw [List.flatMap_cons, ih]; rfl
theorem amg_any (ws : List ByteArray) (t : ByteArray) : ws.any (fun x => decide (t = x)) = amg ws t := by
  unfold amg
  congr 1
  funext x
  exact decide_eq_decide.2 eq_comm
def nameF (hs : List HG) (id : Int) : ByteArray × Bool := match lkH hs id with | some h => (h.name, true) | none => (⟨#[]⟩, false)
theorem spl_yes {ws : List ByteArray} {h : HG} {i : Nat} (hi : i < h.spl.length) (hf : fidx (fun q : ByteArray × Int => amg ws q.1) h.spl = (i : Nat)) : splF ws h = h.spl[i].2 := by
  unfold fidx at hf
  unfold splF
  cases hq : h.spl.findIdx? (fun q : ByteArray × Int => amg ws q.1) with
  | none => rw [hq] at hf; dsimp only at hf; omega
  | some j =>
    rw [hq] at hf
    dsimp only at hf
    have hj : j = i := by omega
    subst hj
    obtain ⟨h1, h2, h3⟩ := List.findIdx?_eq_some_iff_getElem.1 hq
    have e : h.spl.find? (fun p : ByteArray × Int => amg ws p.1) = some h.spl[j] := List.find?_eq_some_iff_getElem.2 ⟨h2, j, h1, rfl, fun k hk => by simpa using h3 k hk⟩
    rw [e]
theorem spl_no {ws : List ByteArray} {h : HG} (hf : fidx (fun q : ByteArray × Int => amg ws q.1) h.spl < 0) : splF ws h = 0 := by
  unfold fidx at hf
  unfold splF
  cases hq : h.spl.findIdx? (fun q : ByteArray × Int => amg ws q.1) with
  | none =>
    have e : h.spl.find? (fun p : ByteArray × Int => amg ws p.1) = none := List.find?_eq_none.2 fun x hx => by
      have := List.findIdx?_eq_none_iff.1 hq x hx
      simpa using this
    rw [e]
  | some j => rw [hq] at hf; dsimp only at hf; omega
theorem fidx_lt {α : Type} {p : α → Bool} {xs : List α} (h : 0 ≤ fidx p xs) : ∃ i, i < xs.length ∧ fidx p xs = (i : Nat) := by
  unfold fidx at *
  cases hq : xs.findIdx? p with
  | none => rw [hq] at h; dsimp only at h; omega
  | some j => exact ⟨j, (List.findIdx?_eq_some_iff_getElem.1 hq).1, rfl⟩
theorem EndsN.look {hs : List HG} {ws : List ByteArray} {n : Nat} {id e : Int} (h : EndsN hs ws n id e) : ∃ g, lkH hs id = some g := by
  cases h with
  | stop h1 _ => exact ⟨_, h1⟩
  | go h1 _ _ => exact ⟨_, h1⟩
theorem EndsN.next {hs : List HG} {ws : List ByteArray} {n : Nat} {id e : Int} {h : HG} (hE : EndsN hs ws n id e) (hl : lkH hs id = some h) (h0 : stepR ws h ≠ 0) : ∃ n', n = n' + 1 ∧ EndsN hs ws n' (stepR ws h) e := by
  cases hE with
  | stop h1 h2 => rw [hl] at h1; cases h1; exact absurd h2 h0
  | go h1 h2 h3 => rw [hl] at h1; cases h1; exact ⟨_, rfl, h3⟩
theorem EndsN.fin {hs : List HG} {ws : List ByteArray} {n : Nat} {id e : Int} {h : HG} (hE : EndsN hs ws n id e) (hl : lkH hs id = some h) (h0 : stepR ws h = 0) : e = id := by
  cases hE with
  | stop h1 h2 => rfl
  | go h1 h2 h3 => rw [hl] at h1; cases h1; exact absurd h0 h2
end Go.PK

namespace Go.PK
open Go Go.RowKit
def tagT : ByteArray := ⟨#[50, 52, 53]⟩
def ruledL : List ByteArray := [⟨#[49, 48, 48]⟩, ⟨#[49, 49, 48]⟩, ⟨#[54, 48, 48]⟩, ⟨#[54, 53, 48]⟩, ⟨#[55, 48, 48]⟩]
def titS (subs : List Sb) : ByteArray := subs.foldl (fun a s => if s.code = 97 ∨ s.code = 98 then a ++ (spcB ++ s.text) else a) ⟨#[]⟩
def titF (fs : List Fl) : ByteArray := match fs.find? (fun f => decide (f.tag = tagT)) with | some f => titS f.subs | none => ⟨#[]⟩
def subI (c : UInt8) (l : List Sb) : Int := fidx (fun s : Sb => decide (s.code = c)) l
def txtI (l : List Sb) (i : Int) : ByteArray := match l[i.toNat]? with | some s => s.text | none => ⟨#[]⟩
def numH (hs : List HG) (t : ByteArray) : Option Int := (hs.find? (fun h => decide (itoaS h.id = t))).map (·.id)
def hdF (hs : List HG) (l : List Sb) : Int × Bool :=
  match (if 0 ≤ subI 48 l then numH hs (txtI l (subI 48 l)) else none) with
  | some id => (id, true)
  | none => if 0 ≤ subI 97 l then findF hs (txtI l (subI 97 l)) else (0, false)
def putS (c : UInt8) (t : ByteArray) (front : Bool) (l : List Sb) : List Sb := if 0 ≤ subI c l then l.set (subI c l).toNat ⟨c, t⟩ else if front then ⟨c, t⟩ :: l else l ++ [⟨c, t⟩]
noncomputable def rewS (hs : List HG) (h : Int) (l : List Sb) : List Sb := putS 48 (itoaS h) false (putS 97 (nameF hs h).1 true l)
noncomputable def rewX (hs : List HG) (ttl : ByteArray) (f : Fl) : Fl := if amg ruledL f.tag = true ∧ (hdF hs f.subs).2 = true then { f with subs := rewS hs (resF hs (wordsP ttl) (hdF hs f.subs).1) f.subs } else f
noncomputable def rewF (hs : List HG) (fs : List Fl) : List Fl := fs.map (rewX hs (titF fs))
theorem subI_at {c : UInt8} {l : List Sb} (h : 0 ≤ subI c l) : ∃ i, ∃ hi : i < l.length, subI c l = (i : Nat) ∧ txtI l (subI c l) = l[i].text ∧ l[i].code = c := by
  obtain ⟨i, hi, h1⟩ := fidx_lt h
  refine ⟨i, hi, h1, ?_, ?_⟩
  · rw [show subI c l = (i : Nat) from h1]
    unfold txtI
    rw [Int.toNat_natCast, List.getElem?_eq_getElem hi]
  · have h2 : fidx (fun s : Sb => decide (s.code = c)) l = (i : Nat) := h1
    unfold fidx at h2
    cases hq : l.findIdx? (fun s : Sb => decide (s.code = c)) with
    | none => rw [hq] at h2; dsimp only at h2; omega
    | some j =>
      rw [hq] at h2
      dsimp only at h2
      have hj : j = i := by omega
      subst hj
      have := (List.findIdx?_eq_some_iff_getElem.1 hq).2.1
      exact of_decide_eq_true this
theorem atoi_itoa8 {n : Int} (h : 0 ≤ n) (h2 : n < 1000000000000000000) : Lib.atoi (itoaS n).data.toList = some n := by
  have hsz : (itoaS n).size ≤ 18 := (itoa_sz h 17).2 (by have : (10 : Int) ^ (17 + 1) = 1000000000000000000 := by decide
                                                         omega)
  have hl : (bl (itoaS n)).length ≤ 18 := by rw [bl_len]; exact hsz
  have h1 := atoi_digits (itoa_canon h) hl
  rw [itoa_num h, Lib.atoiAll_short _ hl] at h1
  show Lib.atoi (bl (itoaS n)) = _
  cases hq : Lib.atoi (bl (itoaS n)) with
  | none => rw [hq] at h1; cases h1
  | some v => rw [hq] at h1; injection h1 with h1; rw [h1]
def atoS8 (t : ByteArray) : Int := match Lib.atoi t.data.toList with | some v => v | none => 0
def atoB8 (t : ByteArray) : Bool := (Lib.atoi t.data.toList).isSome
theorem numH_iff {hs : List HG} {t : ByteArray} (hn : (hs.map (·.id)).Nodup) (hp : ∀ h ∈ hs, 1 ≤ h.id ∧ h.id < 1000000000000000000) (id : Int) : numH hs t = some id ↔ atoB8 t = true ∧ atoS8 t = id ∧ itoaS id = t ∧ (lkH hs id).isSome = true := by
  unfold numH
  constructor
  · intro h
    obtain ⟨g, hg, rfl⟩ := Option.map_eq_some_iff.1 h
    have hm := List.mem_of_find?_eq_some hg
    have ht : itoaS g.id = t := of_decide_eq_true (List.find?_some (p := fun h : HG => decide (itoaS h.id = t)) hg)
    obtain ⟨p1, p2⟩ := hp g hm
    have ha := atoi_itoa8 (n := g.id) (by omega) p2
    rw [ht] at ha
    refine ⟨by unfold atoB8; rw [ha]; rfl, by unfold atoS8; rw [ha], ht, by rw [lkH_of hn hm]; rfl⟩
  · rintro ⟨h1, h2, h3, h4⟩
    obtain ⟨g, hg⟩ := Option.isSome_iff_exists.1 h4
    obtain ⟨hm, rfl⟩ := lkH_mem hg
    cases hq : hs.find? (fun h => decide (itoaS h.id = t)) with
    | none =>
      have := List.find?_eq_none.1 hq g hm
      exact absurd (decide_eq_true h3) this
    | some g' =>
      have hm' := List.mem_of_find?_eq_some hq
      have ht' : itoaS g'.id = t := of_decide_eq_true (List.find?_some (p := fun h : HG => decide (itoaS h.id = t)) hq)
      obtain ⟨p1, p2⟩ := hp g' hm'
      have ha := atoi_itoa8 (n := g'.id) (by omega) p2
      rw [ht'] at ha
      unfold atoS8 at h2
      rw [ha] at h2
      show some g'.id = some g.id
      exact congrArg some h2
end Go.PK

namespace Go.PK
open Go Go.RowKit
theorem sb8_at {D : Nat → Prop} {w : World} {A : Option Addr} {cp : Nat} {xs : List Sb} (h : sliceRd tySb D w (.slice A xs.length cp) xs) {k : Nat} (hk : k < xs.length) : ∃ b o, A = some ⟨b, o, none⟩ ∧ D b ∧ ∀ j (hj : j < (sbC xs[k]).length), w.cell? ⟨b, o + k * 2 + j, none⟩ = some (sbC xs[k])[j] := by
  obtain ⟨A', c', hv, h1, h2, h3⟩ := h
  injection hv with e1 e2 e3
  subst e1 e3
  obtain ⟨b, o, e, hD, _, hc⟩ := h3 (by omega)
  obtain ⟨cs, k1, k2, _⟩ := hc k hk
  subst k2
  exact ⟨b, o, e, hD, fun j hj => k1 j hj⟩
def flV8 (f : Fl) (v : Value) : List Value := [.string f.tag, .string f.ind, .string f.data, v]
theorem fl8_at {D : Nat → Prop} {w : World} {A : Option Addr} {cp : Nat} {xs : List Fl} (h : sliceRd tyFl D w (.slice A xs.length cp) xs) {k : Nat} (hk : k < xs.length) : ∃ b o v, A = some ⟨b, o, none⟩ ∧ D b ∧ (∀ j (hj : j < (flV8 xs[k] v).length), w.cell? ⟨b, o + k * 4 + j, none⟩ = some (flV8 xs[k] v)[j]) ∧ sliceRd tySb D w v xs[k].subs ∧ xs[k].ok := by
  obtain ⟨A', c', hv, h1, h2, h3⟩ := h
  injection hv with e1 e2 e3
  subst e1 e3
  obtain ⟨b, o, e, hD, _, hc⟩ := h3 (by omega)
  obtain ⟨cs, k1, v, k2, k3, k4⟩ := hc k hk
  subst k2
  exact ⟨b, o, v, e, hD, fun j hj => k1 j hj, k4, k3⟩
theorem code_eq {a b : UInt8} : (((a.toNat : Nat) : Int) = ((b.toNat : Nat) : Int)) ↔ a = b := by
  rw [Int.ofNat_inj]
  exact UInt8.toNat_inj
theorem titS_step {l : List Sb} {j : Nat} (h : j < l.length) : titS (l.take (j + 1)) = if l[j].code = 97 ∨ l[j].code = 98 then titS (l.take j) ++ (spcB ++ l[j].text) else titS (l.take j) := by
  unfold titS
  rw [List.take_succ_eq_append_getElem h, List.foldl_append]; rfl
theorem titF_at {fs : List Fl} {k : Nat} (h : k < fs.length) (ht : fs[k].tag = tagT) (hn : ∀ j (hj : j < fs.length), j < k → fs[j].tag ≠ tagT) : titF fs = titS fs[k].subs := by
  have e : fs.find? (fun f => decide (f.tag = tagT)) = some fs[k] := List.find?_eq_some_iff_getElem.2 ⟨decide_eq_true ht, k, h, rfl, fun j hj => by rw [decide_eq_false (hn j (by omega) hj)]; rfl⟩
  unfold titF
  rw [e]
theorem titF_no {fs : List Fl} (hn : ∀ j (hj : j < fs.length), fs[j].tag ≠ tagT) : titF fs = ⟨#[]⟩ := by
  have e : fs.find? (fun f => decide (f.tag = tagT)) = none := List.find?_eq_none.2 fun x hx => by
    obtain ⟨j, hj, rfl⟩ := List.getElem_of_mem hx
    rw [decide_eq_false (hn j hj)]; exact Bool.false_ne_true
  unfold titF
  rw [e]
theorem txtI_at {l : List Sb} {i : Nat} (h : i < l.length) : txtI l (i : Nat) = l[i].text := by
  unfold txtI
  rw [Int.toNat_natCast, List.getElem?_eq_getElem h]
theorem titS_size {l : List Sb} (h : ∀ s ∈ l, s.text.size ≤ 1000) : ∀ j, j ≤ l.length → (titS (l.take j)).size ≤ j * 1001
  | 0, _ => by rw [List.take_zero]; exact Nat.zero_le _
  | j + 1, hj => by
    have h1 := titS_size h j (by omega)
    have h2 := h _ (List.getElem_mem (show j < l.length by omega))
    rw [titS_step (by omega), Nat.add_mul, Nat.one_mul]
    split
    · rw [ByteArray.size_append, ByteArray.size_append, show spcB.size = 1 from rfl]; omega
    · exact Nat.le_trans h1 (Nat.le_add_right _ _)
def smFl (f : Fl) : Prop := f.subs.length ≤ 1000 ∧ ∀ s ∈ f.subs, s.text.size ≤ 1000
theorem titF_size {fs : List Fl} (h : ∀ f ∈ fs, smFl f) : (titF fs).size ≤ 1001000 := by
  unfold titF
  cases hq : fs.find? (fun f => decide (f.tag = tagT)) with
  | none => exact Nat.zero_le _
  | some f =>
    obtain ⟨h1, h2⟩ := h f (List.mem_of_find?_eq_some hq)
    have h3 := titS_size h2 _ (Nat.le_refl _)
    rw [List.take_length] at h3
    dsimp only
    omega
end Go.PK

namespace Go.PK
open Go Go.RowKit
section
variable {P : Program} {n : Nat} {l : List (Nat × Value)} {own oF : List (Nat × Obj)} {ro : List Snap} {lops : List Oper} {Q : Exit → Act → World → Prop} {K : Act → World → Prop} {rest : List (Option Bool × Nat)} {i d j dj : Nat} {want : Bool} {t e : Pl} {op : Op} {ty : TypeId} {pos : String} {af : Array Edge}
theorem j_valg (ho : lops[i]? = some ⟨some d, op, ty, pos, af, some (j, want)⟩) (hj : (lops[j]?).bind (·.dst) = some dj) (hb : l.lookup dj = some (.bool want)) (hd : decide (d < n) = true) {v : Value} (hv : OpV P n l oF ro op ty v)
    (h : S (wpJ P lops.toArray oF ro K t) n ((d, v) :: l) own ro) : S (wpJ P lops.toArray oF ro K (.flt i t)) n l own ro := j_run ho (go_some rfl hj hb) rfl hd hv h
theorem j_boolg (ho : lops[i]? = some ⟨some d, op, ty, pos, af, some (j, want)⟩) (hj : (lops[j]?).bind (·.dst) = some dj) (hb : l.lookup dj = some (.bool want)) (hd : decide (d < n) = true) {b : Bool} (hv : OpV P n l oF ro op ty (.bool b))
    (h : ∀ c, c = b → S (wpJ P lops.toArray oF ro K t) n ((d, .bool c) :: l) own ro) : S (wpJ P lops.toArray oF ro K (.flt i t)) n l own ro := j_valg ho hj hb hd hv (h b rfl)
theorem j_callvg {f : FuncId} {fn : Func} {xs : Array Operand} {tys : Array TypeId} {vs : List Value} (ho : lops[i]? = some ⟨some d, .call ⟨.value (.func f), xs, tys⟩, ty, pos, af, some (j, want)⟩) (hj : (lops[j]?).bind (·.dst) = some dj) (hb : l.lookup dj = some (.bool want)) (hd : decide (d < n) = true)
    (hf : P.funcs[f]? = some fn) (hbody : (!(fn.name == "runtime.NumGoroutine") && fn.body.isSome) = true) (hx : evs l xs.toList = some vs) {v : Value}
    (hc : ∀ w, Mem w oF ro → Calls P f vs.toArray w fun e w' => e = .returned v ∧ Later w w')
    (h : S (wpJ P lops.toArray oF ro K t) n ((d, v) :: l) own ro) : S (wpJ P lops.toArray oF ro K (.flt i t)) n l own ro := fun a w ha hw => by
  have hd' : d < n := of_decide_eq_true hd
  unfold wpJ
  simp only [List.getElem?_toArray, ho]
  rw [if_pos (go_some (lops := lops) (n := n) (l := l) (o := ⟨some d, .call ⟨.value (.func f), xs, tys⟩, ty, pos, af, some (j, want)⟩) rfl hj hb a ha)]
  refine ⟨v, fun w' hw' => ?_, h _ w (ha.put v hd') hw⟩
  unfold fltAt
  rw [run_callv (c := .func f) (fst := #[]) (cap := #[]) rfl ha rfl hf hbody hx]
  have := hc w' hw'
  exact ⟨rfl, by simpa using this⟩
theorem x_turnVg {τ : Type} {f : FuncId} {fn : Func} {xs : Array Operand} {tys : Array TypeId} {vs : List Value} (V : τ → Value) (R : τ → Prop) (O : τ → List (Nat × Obj)) (ho : lops[i]? = some ⟨some d, .call ⟨.value (.func f), xs, tys⟩, ty, pos, af, some (j, want)⟩) (hj : (lops[j]?).bind (·.dst) = some dj) (hb : l.lookup dj = some (.bool want)) (hd : decide (d < n) = true)
    (hf : P.funcs[f]? = some fn) (hbody : (!(fn.name == "runtime.NumGoroutine") && fn.body.isSome) = true) (hx : evs l xs.toList = some vs)
    (hc : ∀ w, Mem w own ro → Calls P f vs.toArray w fun e w' => ∃ x, e = .returned (V x) ∧ R x ∧ Mem w' (O x) ro)
    (h : ∀ x, R x → WX P lops.toArray Q K rest n ((d, V x) :: l) (O x) ro) : WX P lops.toArray Q K ((none, i) :: rest) n l own ro := by
  intro a w ha hw
  have hd' : d < n := of_decide_eq_true hd
  have hw1 := go_some (lops := lops) (n := n) (l := l) (o := ⟨some d, .call ⟨.value (.func f), xs, tys⟩, ty, pos, af, some (j, want)⟩) rfl hj hb a ha
  simp only [wpX, List.getElem?_toArray, ho]
  intro w' hl
  rw [if_pos hw1]
  unfold Oper.wp
  have hc' : ∀ w, Mem w own ro → Calls P f ((#[] : Array Value) ++ vs.toArray ++ #[]) w fun e w' => ∃ x, e = .returned (V x) ∧ R x ∧ Mem w' (O x) ro := by simpa using hc
  rw [run_callv (fst := #[]) (cap := #[]) rfl ha rfl hf hbody hx]
  refine Calls.mono (hc' w' (hw.later hl)) fun e w2 he => ?_
  obtain ⟨x, rfl, hr, hm⟩ := he
  exact h x hr _ w2 (ha.put _ hd') hm
end
end Go.PK

namespace Go.PK
open Go Go.RowKit
structure FE where
  f : Fl
  v : Value
  S : RowS
def feC (e : FE) : List Value := flV8 e.f e.v
def goodE (ws : World) (D : Nat → Prop) (e : FE) : Prop := (e.S = none ∧ sliceRd tySb D ws e.v e.f.subs) ∨ (e.v = rowV e.S e.f.subs.length ∧ rowOK 2 e.S e.f.subs.length (e.f.subs.flatMap sbC))
def okFl (f : Fl) : Prop := f.ok ∧ ∀ s ∈ f.subs, okS s.text
theorem fl_list {D : Nat → Prop} {w : World} : ∀ {css : List (List Value)} {xs : List Fl}, css.length = xs.length → (∀ j (h1 : j < css.length) (h2 : j < xs.length), tyFl.rd D w css[j] xs[j]) → ∃ es : List FE, es.map (·.f) = xs ∧ (∀ e ∈ es, e.S = none ∧ sliceRd tySb D w e.v e.f.subs ∧ e.f.ok) ∧ css.flatten = es.flatMap feC
  | [], [], _, _ => ⟨[], rfl, fun e h => (by cases h), rfl⟩
  | c :: css, x :: xs, hl, h => by
    obtain ⟨v, h1, h2, h3⟩ := h 0 (by simp) (by simp)
    obtain ⟨es, e1, e2, e3⟩ := fl_list (css := css) (xs := xs) (by simpa using hl) (fun j h1 h2 => h (j + 1) (by simpa using h1) (by simpa using h2))
    simp only [List.getElem_cons_zero] at h1 h2 h3
    refine ⟨⟨x, v, none⟩ :: es, by rw [List.map_cons, e1], fun e he => ?_, by rw [List.flatten_cons, List.flatMap_cons, e3, h1]; rfl⟩
    rcases List.mem_cons.1 he with rfl | he
    · exact ⟨rfl, h3, h2⟩
    · exact e2 e he
theorem fl_cells {D : Nat → Prop} {w : World} {A : Option Addr} {cp : Nat} {xs : List Fl} (h : sliceRd tyFl D w (.slice A xs.length cp) xs) (hne : xs ≠ []) : ∃ b o, ∃ es : List FE, A = some ⟨b, o, none⟩ ∧ D b ∧ es.map (·.f) = xs ∧ (∀ e ∈ es, e.S = none ∧ sliceRd tySb D w e.v e.f.subs ∧ e.f.ok) ∧ ∀ j (hj : j < (es.flatMap feC).length), w.cell? ⟨b, o + j, none⟩ = some (es.flatMap feC)[j] := by
  obtain ⟨css, h1, _, _, h4, _, h6, h7⟩ := h.cells
  obtain ⟨es, e1, e2, e3⟩ := fl_list h1 h4
  obtain ⟨b, o, hA, hD, _⟩ := h7 (List.length_pos_iff.2 hne)
  refine ⟨b, o, es, hA, hD, e1, e2, fun j hj => ?_⟩
  have h9 := h6 ⟨b, o, none⟩ hA j _ (by rw [e3]; exact List.getElem?_eq_getElem hj)
  have e9 : (⟨b, o, none⟩ : Addr).add j = ⟨b, o + j, none⟩ := by unfold Addr.add; split <;> simp_all
  rwa [e9] at h9
theorem sb_cells {D : Nat → Prop} {w : World} {A : Option Addr} {cp : Nat} {xs : List Sb} (h : sliceRd tySb D w (.slice A xs.length cp) xs) (hne : xs ≠ []) : ∃ b o, A = some ⟨b, o, none⟩ ∧ D b ∧ (∀ s ∈ xs, okS s.text) ∧ ∀ j (hj : j < (xs.flatMap sbC).length), w.cell? ⟨b, o + j, none⟩ = some (xs.flatMap sbC)[j] := by
  obtain ⟨css, h1, _, _, h4, _, h6, h7⟩ := h.cells
  obtain ⟨e3, e4⟩ := tySb_cells h1 h4
  obtain ⟨b, o, hA, hD, _⟩ := h7 (List.length_pos_iff.2 hne)
  refine ⟨b, o, hA, hD, e4, fun j hj => ?_⟩
  have h9 := h6 ⟨b, o, none⟩ hA j _ (by rw [e3]; exact List.getElem?_eq_getElem hj)
  have e9 : (⟨b, o, none⟩ : Addr).add j = ⟨b, o + j, none⟩ := by unfold Addr.add; split <;> simp_all
  rwa [e9] at h9
theorem sl_one {α : Type} {T : Ty α} {D : Nat → Prop} {w : World} {v : Value} {xs : List α} (h : sliceRd T D w v xs) : v.oneCell' = true := by
  obtain ⟨A, c, rfl, _⟩ := h; rfl
theorem goodE_one {ws : World} {D : Nat → Prop} {e : FE} (h : goodE ws D e) : e.v.oneCell' = true := by
  rcases h with ⟨_, h⟩ | ⟨h, _⟩
  · exact sl_one h
  · rw [h]; cases e.S <;> rfl
theorem feC_one {ws : World} {D : Nat → Prop} {es : List FE} (h : ∀ e ∈ es, goodE ws D e) : (es.flatMap feC).all (fun u => u.oneCell') = true := by
  rw [List.all_eq_true]
  intro u hu
  obtain ⟨e, he, hu⟩ := List.mem_flatMap.1 hu
  simp only [feC, flV8, List.mem_cons, List.mem_nil_iff, or_false] at hu
  rcases hu with rfl | rfl | rfl | rfl
  · rfl
  · rfl
  · rfl
  · exact goodE_one (h e he)
theorem srow_rd {T : TypeId} {own : List (Nat × Obj)} {ro : List Snap} {w : World} {D : Nat → Prop} {S : RowS} {xs : List Sb} (hr : rowOK 2 S xs.length (xs.flatMap sbC)) (hok : ∀ s ∈ xs, okS s.text) (hm : Mem w own ro) (hin : ∀ p ∈ rowO T S, p ∈ own) (hD : ∀ p ∈ rowO T S, D p.1) : sliceRd tySb D w (rowV S xs.length) xs := by
  have h : RowT tySb (fun _ => False) w S xs := ⟨xs.map sbC, by simp, by rw [← List.flatMap_def]; exact hr, fun j a1 a2 => by
    rw [List.getElem_map]; exact ⟨rfl, hok _ (List.getElem_mem a2)⟩⟩
  exact h.rd hm hin (fun _ hx => hx.elim) hD rfl
theorem goodE.rd {T : TypeId} {own : List (Nat × Obj)} {ro : List Snap} {w ws : World} {D D' : Nat → Prop} {e : FE} (h : goodE ws D e) (hok : okFl e.f) (hm : Mem w own ro) (hsn : (ws, D) ∈ ro) (hin : ∀ p ∈ rowO T e.S, p ∈ own) (h1 : ∀ k, D k → k < ws.heap.size → D' k) (h2 : ∀ p ∈ rowO T e.S, D' p.1) : sliceRd tySb D' w e.v e.f.subs := by
  rcases h with ⟨_, h⟩ | ⟨hv, h⟩
  · exact h.keep fun k hk hlt => ⟨h1 k hk hlt, hm.ro_at _ hsn k hk hlt⟩
  · rw [hv]; exact srow_rd h hok.2 hm hin h2
theorem fe_rd {TF T : TypeId} {own : List (Nat × Obj)} {ro : List Snap} {w ws : World} {D D' : Nat → Prop} {es : List FE} {C : RowS} (hm : Mem w own ro) (hsn : (ws, D) ∈ ro) (hC : rowOK 4 C es.length (es.flatMap feC)) (hg : ∀ e ∈ es, goodE ws D e ∧ okFl e.f) (hin : ∀ p ∈ rowO TF C, p ∈ own) (hinE : ∀ e ∈ es, ∀ p ∈ rowO T e.S, p ∈ own)
    (h1 : ∀ k, D k → k < ws.heap.size → D' k) (h2 : ∀ e ∈ es, ∀ p ∈ rowO T e.S, D' p.1) (h3 : ∀ p ∈ rowO TF C, D' p.1) : sliceRd tyFl D' w (rowV C es.length) (es.map (·.f)) := by
  have h : RowT tyFl D' w C (es.map (·.f)) := ⟨es.map feC, by simp, by rw [← List.flatMap_def, List.length_map]; exact hC, fun j a1 a2 => by
    have a3 : j < es.length := by simpa using a1
    rw [List.getElem_map, List.getElem_map]
    have he := List.getElem_mem a3
    obtain ⟨g1, g2⟩ := hg _ he
    exact ⟨es[j].v, rfl, g2.1, g1.rd g2 hm hsn (hinE _ he) h1 (h2 _ he)⟩⟩
  exact h.rd hm hin (fun _ h => h) h3 (by simp)
theorem putS_at {c : UInt8} {t : ByteArray} {b : Bool} {l : List Sb} {i : Nat} (h : subI c l = (i : Nat)) : putS c t b l = l.set i ⟨c, t⟩ := by
  unfold putS
  rw [if_pos (by omega), h, Int.toNat_natCast]
theorem putS_front {c : UInt8} {t : ByteArray} {l : List Sb} (h : ¬0 ≤ subI c l) : putS c t true l = ⟨c, t⟩ :: l := by
  unfold putS
  rw [if_neg h, if_pos rfl]
theorem putS_back {c : UInt8} {t : ByteArray} {l : List Sb} (h : ¬0 ≤ subI c l) : putS c t false l = l ++ [⟨c, t⟩] := by
  unfold putS
  rw [if_neg h]; rfl
theorem putS_len {c : UInt8} {t : ByteArray} {b : Bool} {l : List Sb} : (putS c t b l).length ≤ l.length + 1 := by
  unfold putS
  split
  · rw [List.length_set]; omega
  · split
    · exact Nat.le_refl _
    · rw [List.length_append]; exact Nat.le_refl _
theorem putS_mem {c : UInt8} {t : ByteArray} {b : Bool} {l : List Sb} {s : Sb} (h : s ∈ putS c t b l) : s ∈ l ∨ s = ⟨c, t⟩ := by
  unfold putS at h
  split at h
  · exact List.mem_or_eq_of_mem_set h
  · split at h
    · rcases List.mem_cons.1 h with rfl | h
      · exact .inr rfl
      · exact .inl h
    · rcases List.mem_append.1 h with h | h
      · exact .inl h
      · exact .inr (List.mem_singleton.1 h)
end Go.PK

namespace Go.PK
open Go Go.RowKit
theorem row_put {α : Type} {c : α → List Value} {m g cp : Nat} {cs : List Value} {xs : List α} (hc : ∀ x, (c x).length = m) (h : rowOK m (some (g, cs, cp)) xs.length (xs.flatMap c)) {i : Nat} (hi : i < xs.length) (x : α) : rowOK m (some (g, cs.take (i * m) ++ c x ++ cs.drop (i * m + m), cp)) (xs.set i x).length ((xs.set i x).flatMap c) := by
  obtain ⟨h1, h2, h3, h4, h5⟩ := h
  dsimp only at h2 h4 h5
  have him : i * m + m ≤ xs.length * m := by
    have := Nat.mul_le_mul_right m hi
    rw [Nat.succ_mul] at this; exact this
  have hcp : xs.length * m ≤ cs.length := by rw [h4]; exact Nat.mul_le_mul_right m h2
  have hl1 : (cs.take (i * m)).length = i * m := by rw [List.length_take]; omega
  have e1 : cs.take (i * m) = (xs.take i).flatMap c := by rw [← flC_take hc, ← h5, List.take_take, Nat.min_eq_left (by omega)]
  have e2 : (cs.drop (i * m + m)).take ((xs.length - (i + 1)) * m) = (xs.drop (i + 1)).flatMap c := by
    rw [← flC_drop hc, ← h5, List.drop_take, Nat.succ_mul, Nat.sub_mul, Nat.succ_mul]
  have hset : (xs.set i x).flatMap c = (xs.take i).flatMap c ++ (c x ++ (xs.drop (i + 1)).flatMap c) := by
    rw [List.set_eq_take_append_cons_drop, if_pos hi, List.flatMap_append, List.flatMap_cons]
  refine ⟨by rw [flC_len hc], by rw [List.length_set]; exact h2, h3, ?_, ?_⟩
  · dsimp only
    rw [List.length_append, List.length_append, hl1, hc, List.length_drop]; omega
  · dsimp only
    have t1 : ∀ (A B C : List Value) (N a b : Nat), A.length = a → B.length = b → a + b ≤ N → (A ++ (B ++ C)).take N = A ++ (B ++ C.take (N - a - b)) := fun A B C N a b h1 h2 h3 => by
      rw [List.take_append, List.take_of_length_le (by omega), List.take_append, List.take_of_length_le (by omega), h1, h2]
    rw [List.length_set, hset, ← e1, ← e2, List.append_assoc, t1 _ _ _ _ _ _ hl1 (hc x) him]
    congr 4
    rw [Nat.sub_mul, Nat.succ_mul]
    omega
theorem rw_step {fs : List Fl} {es : List FE} {k : Nat} {g : Fl → Fl} (h : es.map (·.f) = (fs.take k).map g ++ fs.drop k) (hk : k < fs.length) (hk2 : k < es.length) : es[k].f = fs[k] ∧ (g fs[k] = fs[k] → es.map (·.f) = (fs.take (k + 1)).map g ++ fs.drop (k + 1)) ∧ ∀ e', e'.f = g fs[k] → (es.set k e').map (·.f) = (fs.take (k + 1)).map g ++ fs.drop (k + 1) := by
  have hl : ((fs.take k).map g).length = k := by rw [List.length_map, List.length_take]; omega
  have hd : fs.drop k = fs[k] :: fs.drop (k + 1) := List.drop_eq_getElem_cons hk
  have e1 : es[k].f = fs[k] := by
    have : (es.map (·.f))[k]? = some fs[k] := by rw [h, List.getElem?_append_right (by omega), hl, Nat.sub_self, hd]; rfl
    rw [List.getElem?_map, List.getElem?_eq_getElem hk2] at this
    exact Option.some.inj this
  have e2 : (fs.take (k + 1)).map g = (fs.take k).map g ++ [g fs[k]] := by rw [List.take_succ_eq_append_getElem hk, List.map_append]; rfl
  refine ⟨e1, fun hg => by rw [h, e2, hg, hd, List.append_assoc]; rfl, fun e' he => ?_⟩
  rw [List.map_set, h, e2, he, hd, List.set_append_right _ _ (by omega), hl, Nat.sub_self, List.append_assoc]; rfl
theorem leastB_mem {p : HG → Bool} {l : List HG} (hp : ∀ h ∈ l, 1 ≤ h.id) (h0 : leastB p l ≠ 0) : ∃ h ∈ l, h.id = leastB p l := by
  rcases leastB_is p l hp with ⟨h, _⟩ | ⟨⟨h, hh, _, hi⟩, _⟩
  · exact absurd h h0
  · exact ⟨h, hh, hi⟩
theorem findF_look {hs : List HG} (ha : Acy hs) {t : ByteArray} (h : (findF hs t).2 = true) : (lkH hs (findF hs t).1).isSome = true := by
  have hp : ∀ h ∈ hs, 1 ≤ h.id := fun h hh => (ha.pos h hh).1
  unfold findF at h ⊢
  split at h
  · cases h
  · rename_i hs0
    rw [if_neg hs0]
    have h0 : findT hs (foldS t) ≠ 0 := of_decide_eq_true h
    have : ∃ g ∈ hs, g.id = findT hs (foldS t) := by
      unfold findT at h0 ⊢
      split at h0
      · rename_i h1; rw [if_pos h1]; exact leastB_mem hp h0
      · rename_i h1; rw [if_neg h1]; exact leastB_mem hp h0
    obtain ⟨g, hg, he⟩ := this
    dsimp only
    rw [← he, lkH_of ha.ids hg]; rfl
theorem numH_look {hs : List HG} (ha : Acy hs) {t : ByteArray} {id : Int} (h : numH hs t = some id) : (lkH hs id).isSome = true := by
  unfold numH at h
  obtain ⟨g, hg, rfl⟩ := Option.map_eq_some_iff.1 h
  rw [lkH_of ha.ids (List.mem_of_find?_eq_some hg)]; rfl
theorem hdF_look {hs : List HG} (ha : Acy hs) {l : List Sb} (h : (hdF hs l).2 = true) : (lkH hs (hdF hs l).1).isSome = true := by
  unfold hdF at h ⊢
  cases hq : (if 0 ≤ subI 48 l then numH hs (txtI l (subI 48 l)) else none) with
  | some id =>
    split at hq
    · exact numH_look ha hq
    · cases hq
  | none =>
    rw [hq] at h
    dsimp only at h ⊢
    split at h
    · rename_i h1; rw [if_pos h1]; exact findF_look ha h
    · cases h
theorem rewX_no {hs : List HG} {ttl : ByteArray} {f : Fl} (h : ¬(amg ruledL f.tag = true ∧ (hdF hs f.subs).2 = true)) : rewX hs ttl f = f := by unfold rewX; rw [if_neg h]
theorem rewX_yes {hs : List HG} {ttl : ByteArray} {f : Fl} (h1 : amg ruledL f.tag = true) (h2 : (hdF hs f.subs).2 = true) : rewX hs ttl f = { f with subs := rewS hs (resF hs (wordsP ttl) (hdF hs f.subs).1) f.subs } := by unfold rewX; rw [if_pos ⟨h1, h2⟩]
def EOs (T : TypeId) (es : List FE) : List (Nat × Obj) := es.flatMap fun e => rowO T e.S
theorem EO_set {T : TypeId} {es : List FE} {k : Nat} (hk : k < es.length) (h0 : es[k].S = none) (e' : FE) : (EOs T (es.set k e')).Perm (rowO T e'.S ++ EOs T es) := by
  have e1 : es = es.take k ++ es[k] :: es.drop (k + 1) := by rw [List.getElem_cons_drop, List.take_append_drop]
  have h1 : EOs T es = EOs T (es.take k) ++ EOs T (es.drop (k + 1)) := by
    unfold EOs
    conv => lhs; rw [e1]
    rw [List.flatMap_append, List.flatMap_cons, h0]; rfl
  have h2 : EOs T (es.set k e') = EOs T (es.take k) ++ (rowO T e'.S ++ EOs T (es.drop (k + 1))) := by
    unfold EOs
    rw [List.set_eq_take_append_cons_drop, if_pos hk, List.flatMap_append, List.flatMap_cons]
  rw [h1, h2, ← List.append_assoc, ← List.append_assoc]
  exact List.perm_append_comm.append_right _
theorem EO_none {T : TypeId} {es : List FE} (h : ∀ e ∈ es, e.S = none) : EOs T es = [] := by
  unfold EOs
  rw [List.flatMap_eq_nil_iff]
  intro e he
  rw [h e he]; rfl
theorem EO_mem {T : TypeId} {es : List FE} {e : FE} (he : e ∈ es) {p : Nat × Obj} (hp : p ∈ rowO T e.S) : p ∈ EOs T es := List.mem_flatMap.2 ⟨e, he, hp⟩
end Go.PK

namespace Go.PK
open Go Go.RowKit
def i5F (x : FD) : List Int := [x.ag, x.num, x.kind, x.hd, x.to]
def e2F (x : FD) : List ByteArray := [⟨(intsG (i5F x)).toArray⟩, x.txt]
def encT8 (fs : List FD) : List ByteArray := fs.flatMap e2F
def encF8 (fs : List FD) : ByteArray := ⟨(packG (encT8 fs)).toArray⟩
theorem encT8_len (fs : List FD) : (encT8 fs).length = 2 * fs.length := by
  unfold encT8
  rw [flC_len' fs]
where
  flC_len' : ∀ fs : List FD, (fs.flatMap e2F).length = 2 * fs.length
    | [] => rfl
    | x :: l => by rw [List.flatMap_cons, List.length_append, flC_len' l]; simp [e2F]; omega
theorem encT8_succ {fs : List FD} {k : Nat} (h : k < fs.length) : encT8 (fs.take (k + 1)) = encT8 (fs.take k) ++ e2F fs[k] := by
  unfold encT8
  rw [List.take_succ_eq_append_getElem h, List.flatMap_append]
  simp
theorem encT8_size {fs : List FD} (hs : ∀ q ∈ fs, q.txt.size ≤ 2000000) (hi : ∀ q ∈ fs, in64 q.ag ∧ in64 q.num ∧ in64 q.kind ∧ in64 q.hd ∧ in64 q.to) : ∀ s ∈ encT8 fs, s.size ≤ 2000000 := by
  intro s h
  obtain ⟨x, hx, h⟩ := List.mem_flatMap.1 h
  simp only [e2F, List.mem_cons, List.mem_nil_iff, or_false] at h
  rcases h with rfl | rfl
  · obtain ⟨q1, q2, q3, q4, q5⟩ := hi x hx
    refine intsG_size (by show 5 ≤ 100000; omega) fun n hn => ?_
    simp only [i5F, List.mem_cons, List.mem_nil_iff, or_false] at hn
    rcases hn with rfl | rfl | rfl | rfl | rfl
    · exact q1
    · exact q2
    · exact q3
    · exact q4
    · exact q5
  · exact hs x hx
end Go.PK

namespace Go.PK
open Go Go.RowKit
theorem runesF_le (s : ByteArray) : ∀ (n i : Nat), ∀ c ∈ runesF s n i, c ≤ 2147483647
  | 0, i, c, h => by cases h
  | n + 1, i, c, h => by
    unfold runesF at h
    split at h
    · rcases List.mem_cons.1 h with rfl | h
      · exact decode_le _ _
      · exact runesF_le s n _ c h
    · cases h
theorem runes_le (s : ByteArray) : ∀ c ∈ runes s, c ≤ 2147483647 := runesF_le s _ _
theorem wf_stop {w : ByteArray} : wordsF [] w = if w.size = 0 then [] else [w] := by unfold wordsF; rfl
theorem wf_go {c : Nat} {r : List Nat} {w : ByteArray} (h : foldC c ≠ spcB) : wordsF (c :: r) w = wordsF r (w ++ foldC c) := by rw [wordsF, if_neg h]
theorem wf_cut {c : Nat} {r : List Nat} {w : ByteArray} (h : foldC c = spcB) (hw : w.size ≠ 0) : wordsF (c :: r) w = w :: wordsF r ⟨#[]⟩ := by rw [wordsF, if_pos h, if_neg hw]
theorem wf_blank {c : Nat} {r : List Nat} {w : ByteArray} (h : foldC c = spcB) (hw : w.size = 0) : wordsF (c :: r) w = wordsF r ⟨#[]⟩ := by rw [wordsF, if_pos h, if_pos hw]
theorem joinS_snoc : ∀ (l : List ByteArray) (a : ByteArray), joinS (l ++ [a]) = if l = [] then a else joinS l ++ spcB ++ a
  | [], a => by rw [List.nil_append, if_pos rfl]; rfl
  | [x], a => by rw [if_neg (by simp)]; rfl
  | x :: y :: l, a => by
    have h := joinS_snoc (y :: l) a
    rw [if_neg (by simp)] at h ⊢
    show x ++ spcB ++ joinS ((y :: l) ++ [a]) = (x ++ spcB ++ joinS (y :: l)) ++ spcB ++ a
    rw [h]
    simp only [ByteArray.append_assoc]
end Go.PK

namespace Go.PK
open Go Go.RowKit
def midF (fs : List FD) (x : FD) (k : Nat) : List FD := fs.take k ++ x :: fs.drop k
theorem midF_len {fs : List FD} {x : FD} {k : Nat} (hk : k ≤ fs.length) : (midF fs x k).length = fs.length + 1 := by
  unfold midF
  rw [List.length_append, List.length_cons, List.length_take, List.length_drop]; omega
theorem midF_all (fs : List FD) (x : FD) : midF fs x fs.length = fs ++ [x] := by
  unfold midF
  rw [List.take_length, List.drop_length]
theorem midF_succ {fs : List FD} {x : FD} {j : Nat} (h : j < fs.length) : midF fs x (j + 1) = fs.take j ++ fs[j] :: x :: fs.drop (j + 1) := by
  unfold midF
  rw [List.take_succ_eq_append_getElem h, List.append_assoc]; rfl
theorem midF_at {fs : List FD} {x : FD} {j : Nat} (h : j < fs.length) : (midF fs x (j + 1))[j + 1]? = some x ∧ (midF fs x (j + 1))[j]? = some fs[j] := by
  have hl : (fs.take j).length = j := by rw [List.length_take]; omega
  rw [midF_succ h]
  constructor
  · rw [List.getElem?_append_right (by omega), hl, show j + 1 - j = 1 by omega]; rfl
  · rw [List.getElem?_append_right (by omega), hl, Nat.sub_self]; rfl
theorem midF_move {fs : List FD} {x : FD} {j : Nat} (h : j < fs.length) : ((midF fs x (j + 1)).set (j + 1) fs[j]).set j x = midF fs x j := by
  have hl : (fs.take j).length = j := by rw [List.length_take]; omega
  rw [midF_succ h, List.set_append_right _ _ (by omega), hl, show j + 1 - j = 1 by omega, List.set_append_right _ _ (by omega), hl, Nat.sub_self]
  show fs.take j ++ x :: fs[j] :: fs.drop (j + 1) = _
  unfold midF
  rw [List.getElem_cons_drop]
theorem midF_ins {fs : List FD} {x : FD} (hs : srtF8 fs) (hn : ∀ y ∈ fs, ¬(y.num = x.num ∧ y.ag = x.ag)) {k : Nat} (hk : k ≤ fs.length) (h1 : ∀ j (hj : j < fs.length), k ≤ j → befF x fs[j]) (h2 : ∀ j (hj : j < fs.length), j + 1 = k → ¬befF x fs[j]) : midF fs x k = insF fs x := by
  have hb : ∀ i (hi : i < fs.length), i < k → befF fs[i] x := by
    cases k with
    | zero => intro i hi h; omega
    | succ m =>
      have hm : m < fs.length := by omega
      have hbm : befF fs[m] x := (befF_or (hn _ (List.getElem_mem hm))).resolve_right (h2 m hm rfl)
      intro i hi h
      rcases Nat.lt_or_eq_of_le (Nat.le_of_lt_succ h) with h3 | rfl
      · exact befF_trans (List.pairwise_iff_getElem.1 hs i m hi hm h3) hbm
      · exact hbm
  have := insF_at (l := fs) (x := x) hk hb fun i hi hki hbe => absurd (befF_trans hbe (h1 i hi hki)) befF_irr
  rw [this]; rfl
end Go.PK

namespace Go.PK
open Go Go.RowKit
end Go.PK

namespace Go.PK
open Go Go.RowKit
theorem set_mid {α : Type} {cs : List α} {p m f : Nat} {v : α} (hf : f < m) (hl : p + m ≤ cs.length) : cs.take (p + f) ++ [v] ++ cs.drop (p + f + 1) = cs.take p ++ (((cs.drop p).take m).set f v) ++ cs.drop (p + m) := by
  have h1 : cs.take (p + f) ++ [v] ++ cs.drop (p + f + 1) = cs.set (p + f) v := by
    rw [List.set_eq_take_append_cons_drop, if_pos (by omega), List.append_assoc]; rfl
  have h2 : cs = cs.take p ++ ((cs.drop p).take m ++ cs.drop (p + m)) := by
    rw [← List.drop_drop, List.take_append_drop, List.take_append_drop]
  have l1 : (cs.take p).length = p := by rw [List.length_take]; omega
  have l2 : ((cs.drop p).take m).length = m := by rw [List.length_take, List.length_drop]; omega
  rw [h1]
  conv => lhs; rw [h2]
  rw [List.set_append_right _ _ (by omega), l1, show p + f - p = f by omega, List.set_append_left _ _ (by omega), List.append_assoc]
theorem row_fld {α : Type} {c : α → List Value} {m g cp : Nat} {cs : List Value} {xs : List α} (hc : ∀ x, (c x).length = m) (h : rowOK m (some (g, cs, cp)) xs.length (xs.flatMap c)) {i f : Nat} (hi : i < xs.length) (hf : f < m) {v : Value} {x : α} (hx : c x = (c xs[i]).set f v) : rowOK m (some (g, cs.take (i * m + f) ++ [v] ++ cs.drop (i * m + f + 1), cp)) (xs.set i x).length ((xs.set i x).flatMap c) := by
  have h1 := row_put hc h hi x
  obtain ⟨_, h2, _, h4, h5⟩ := h
  dsimp only at h2 h4 h5
  have him : i * m + m ≤ xs.length * m := by
    have := Nat.mul_le_mul_right m hi
    rw [Nat.succ_mul] at this; exact this
  have hcp : xs.length * m ≤ cs.length := by rw [h4]; exact Nat.mul_le_mul_right m h2
  have e : (cs.drop (i * m)).take m = c xs[i] := by
    apply List.ext_getElem?
    intro j
    by_cases hj : j < m
    · rw [List.getElem?_take_of_lt hj, List.getElem?_drop, ← List.getElem?_take_of_lt (show i * m + j < xs.length * m by omega), h5]
      exact flC_get' hc xs i j hi hj
    · rw [List.getElem?_take, if_neg hj, List.getElem?_eq_none (by rw [hc]; omega)]
  rw [set_mid hf (by omega), e, ← hx]
  exact h1
end Go.PK

namespace Go.PK
open Go Go.RowKit
def anyN8 (f : Int → Option Bool) : List Int → Option Bool
  | [] => some false
  | c :: l => match f c, anyN8 f l with | some x, some y => some (x || y) | _, _ => none
def rchN (hs : List HG) (t : Int) : Nat → Int → Option Bool
  | 0, _ => none
  | n + 1, id => if id = t then some true else match lkH hs id with | none => some false | some h => anyN8 (fun c => rchN hs t n c) (edges h)
def accN (n : Nat) (hs : List HG) (x : FD) : Option (Option (List HG)) :=
  match lkH hs x.hd with
  | none => some (if x.kind = 1 then some (hs ++ [⟨x.hd, x.txt, [], [], 0⟩]) else none)
  | some h =>
    if x.kind = 1 then some none
    else if h.into ≠ 0 then some none
    else if x.kind = 2 then some (some (setH hs { h with name := x.txt, oth := h.oth ++ [h.name] }))
    else if x.kind = 3 then some (some (setH hs { h with oth := h.oth ++ [x.txt] }))
    else match lkH hs x.to with
      | none => some none
      | some _ => match rchN hs x.hd n x.to with
        | none => none
        | some true => some none
        | some false => some (some (if x.kind = 4 then setH hs { h with into := x.to } else setH hs { h with spl := h.spl ++ [(foldS x.txt, x.to)] }))
def stN (n : Nat) : List FD → SG8 → Option SG8
  | [], s => some s
  | x :: l, s => match accN n s.hs x with | none => none | some none => stN n l ⟨s.hs, s.ref ++ [x]⟩ | some (some hs) => stN n l ⟨hs, s.ref⟩
def resN8 (hs : List HG) (ws : List ByteArray) : Nat → Int → Option Int
  | 0, _ => none
  | n + 1, id => match lkH hs id with | none => none | some h => if stepR ws h = 0 then some id else resN8 hs ws n (stepR ws h)
theorem anyN8_is {f : Int → Option Bool} {g : Int → Bool} (hfg : ∀ c b, f c = some b → g c = b) : ∀ (l : List Int) (b : Bool), anyN8 f l = some b → l.any g = b
  | [], b, h => by injection h
  | c :: l, b, h => by
    unfold anyN8 at h
    cases h1 : f c with
    | none => rw [h1] at h; cases h
    | some x =>
      cases h2 : anyN8 f l with
      | none => rw [h1, h2] at h; cases h
      | some y =>
        rw [h1, h2] at h
        injection h with h
        rw [List.any_cons, hfg c x h1, anyN8_is hfg l y h2, h]
theorem rchN_is {hs : List HG} {t : Int} : ∀ (n : Nat) (id : Int) (b : Bool), rchN hs t n id = some b → rchB hs t id = b
  | 0, _, _, h => by cases h
  | n + 1, id, b, h => by
    unfold rchN at h
    by_cases h0 : id = t
    · rw [if_pos h0] at h
      injection h with h
      rw [h0, rchB_here, h]
    · rw [if_neg h0] at h
      cases hl : lkH hs id with
      | none =>
        rw [hl] at h
        injection h with h
        rw [← h]
        refine rchB_no.2 fun hr => ?_
        rcases RchH.iff.1 hr with h1 | ⟨g, h1, _⟩
        · exact h0 h1
        · rw [hl] at h1; cases h1
      | some g =>
        rw [hl] at h
        rw [rchB_step hl h0]
        exact anyN8_is (fun c b hb => rchN_is n c b hb) _ _ h
theorem accN_is {n : Nat} {hs : List HG} {x : FD} {r : Option (List HG)} (h : accN n hs x = some r) : accS hs x = r := by
  unfold accN at h
  unfold accS
  cases hl : lkH hs x.hd with
  | none => rw [hl] at h; injection h with h
  | some g =>
    rw [hl] at h
    dsimp only at h ⊢
    by_cases h1 : x.kind = 1
    · rw [if_pos h1] at h ⊢; injection h with h
    rw [if_neg h1] at h ⊢
    by_cases h2 : g.into ≠ 0
    · rw [if_pos h2] at h ⊢; injection h with h
    rw [if_neg h2] at h ⊢
    by_cases h3 : x.kind = 2
    · rw [if_pos h3] at h ⊢; injection h with h
    rw [if_neg h3] at h ⊢
    by_cases h4 : x.kind = 3
    · rw [if_pos h4] at h ⊢; injection h with h
    rw [if_neg h4] at h ⊢
    cases ht : lkH hs x.to with
    | none =>
      rw [ht] at h
      rw [if_pos rfl]; injection h with h
    | some g2 =>
      rw [ht] at h
      rw [if_neg (fun h => by cases h)]
      dsimp only at h
      cases hr : rchN hs x.hd n x.to with
      | none => rw [hr] at h; cases h
      | some b =>
        rw [hr] at h
        have hb := rchN_is n x.to b hr
        cases b with
        | true => rw [if_pos (rchB_iff.1 hb)]; injection h with h
        | false =>
          rw [if_neg (rchB_no.1 hb)]
          injection h with h
          rw [← h]
          by_cases h5 : x.kind = 4
          · rw [if_pos h5, if_pos h5]
          · rw [if_neg h5, if_neg h5]
theorem stN_is {n : Nat} : ∀ (l : List FD) (s r : SG8), stN n l s = some r → l.foldl applyS s = r
  | [], s, r, h => by injection h
  | x :: l, s, r, h => by
    unfold stN at h
    rw [List.foldl_cons]
    cases ha : accN n s.hs x with
    | none => rw [ha] at h; cases h
    | some o =>
      rw [ha] at h
      have h1 := accN_is ha
      cases o with
      | none =>
        rw [show applyS s x = ⟨s.hs, s.ref ++ [x]⟩ by unfold applyS; rw [h1]]
        exact stN_is l _ r h
      | some hs =>
        rw [show applyS s x = ⟨hs, s.ref⟩ by unfold applyS; rw [h1]]
        exact stN_is l _ r h
theorem stF_of {n : Nat} {l : List FD} {r : SG8} (h : stN n l ⟨[], []⟩ = some r) : stF l = r := stN_is l _ r h
theorem resN8_is {hs : List HG} {ws : List ByteArray} : ∀ (n : Nat) (id e : Int), resN8 hs ws n id = some e → ∃ m, EndsN hs ws m id e
  | 0, _, _, h => by cases h
  | n + 1, id, e, h => by
    unfold resN8 at h
    cases hl : lkH hs id with
    | none => rw [hl] at h; cases h
    | some g =>
      rw [hl] at h
      dsimp only at h
      by_cases h0 : stepR ws g = 0
      · rw [if_pos h0] at h
        injection h with h
        subst h
        exact ⟨0, .stop hl h0⟩
      · rw [if_neg h0] at h
        obtain ⟨m, hm⟩ := resN8_is n _ _ h
        exact ⟨m + 1, .go hl h0 hm⟩
theorem resolve_of {hs : List HG} {ws : List ByteArray} {n : Nat} {id e : Int} (h : resN8 hs ws n id = some e) : resolveF hs ws id = (e, true) ∧ resF hs ws id = e := by
  obtain ⟨m, hm⟩ := resN8_is n id e h
  refine ⟨?_, hm.res⟩
  obtain ⟨g, hg⟩ := hm.look
  unfold resolveF
  rw [hg]
  show (resF hs ws id, true) = _
  rw [hm.res]
def takeAll (l : List FD) : List FD := l.foldl (fun a f => (takeF a f).2) []
theorem takeAll_snoc (l : List FD) (f : FD) : takeAll (l ++ [f]) = (takeF (takeAll l) f).2 := by
  unfold takeAll
  rw [List.foldl_append]; rfl
theorem takeAll_ok (l : List FD) : FsOK (takeAll l) := by
  refine snocRec (motive := fun l => FsOK (takeAll l)) FsOK.nil (fun l a h => ?_) l
  rw [takeAll_snoc]
  exact h.take a
def T8a : ByteArray := ⟨#[67, 108, 101, 109, 101, 110, 115, 44, 32, 83, 97, 109, 117, 101, 108]⟩
def T8b : ByteArray := ⟨#[84, 119, 97, 105, 110, 44, 32, 77, 97, 114, 107]⟩
def T8c : ByteArray := ⟨#[84, 119, 97, 105, 110, 44, 32, 77, 46]⟩
def T8d : ByteArray := ⟨#[84, 119, 97, 105, 110, 44, 32, 77, 97, 114, 107, 32, 40, 109, 117, 115, 105, 99, 41]⟩
def T8e : ByteArray := ⟨#[83, 111, 110, 103, 115]⟩
def exF : List FD := [⟨1, 1, 1, 1, 0, T8a⟩, ⟨1, 2, 1, 2, 0, T8b⟩, ⟨1, 3, 3, 2, 0, T8c⟩, ⟨1, 4, 4, 1, 2, ⟨#[]⟩⟩, ⟨1, 5, 1, 3, 0, T8d⟩, ⟨1, 6, 5, 2, 3, T8e⟩]
def ex7 : FD := ⟨1, 7, 4, 3, 1, ⟨#[]⟩⟩
def hs8 : List HG := [⟨1, T8a, [], [], 2⟩, ⟨2, T8b, [T8c], [(⟨#[115, 111, 110, 103, 115]⟩, 3)], 0⟩, ⟨3, T8d, [], [], 0⟩]
theorem ex_st : stN 9 exF ⟨[], []⟩ = some ⟨hs8, []⟩ := by kernel_rfl
theorem ex_all : takeAll exF = exF := by kernel_rfl
theorem ex_take7 : takeF exF ex7 = (0, exF ++ [ex7]) := by kernel_rfl
theorem ex_st7 : stN 9 (exF ++ [ex7]) ⟨[], []⟩ = some ⟨hs8, [ex7]⟩ := by kernel_rfl
theorem ex_find : findF hs8 ⟨#[67, 76, 69, 77, 69, 78, 83, 44, 32, 83, 97, 109, 117, 101, 108]⟩ = (1, true) := by kernel_rfl
theorem ex_r1 : resN8 hs8 (wordsP ⟨#[84, 111, 109, 32, 83, 97, 119, 121, 101, 114]⟩) 9 1 = some 2 := by kernel_rfl
theorem ex_r2 : resN8 hs8 (wordsP ⟨#[79, 108, 100, 32, 115, 111, 110, 103, 115]⟩) 9 1 = some 3 := by kernel_rfl
end Go.PK

namespace Go.PK
open Go Go.RowKit
def kindL : List Int := [1, 1, 2, 3, 4, 4, 5, 5, 1]
def nameL : List ByteArray := [T8b, ⟨#[116, 119, 97, 105, 110, 32, 109, 97, 114, 107]⟩, ⟨#[67, 108, 101, 109, 101, 110, 115]⟩, ⟨#[69, 108, 105, 111, 116, 44, 32, 71, 101, 111, 114, 103, 101]⟩, ⟨#[195, 137, 118, 97, 110, 115]⟩, T8e, ⟨#[109, 117, 115, 105, 99]⟩, ⟨#[90, 111, 108, 97]⟩, ⟨#[84, 119, 97, 105, 110]⟩, ⟨#[111, 102]⟩]
def splL : List ByteArray := [⟨#[115, 111, 110, 103, 115]⟩, ⟨#[77, 117, 115, 105, 99]⟩, ⟨#[79, 70]⟩, ⟨#[116, 111, 109]⟩]
def feed0 (k : Nat) (q0 q1 q2 q3 : Int) : FD := ⟨1 + q3 % 3, 1 + k + q3.tdiv 3 % 4, kindL.getD (q0 % 9).toNat 0, 1 + q1 % 8, 0, nameL.getD (q2 % 10).toNat ⟨#[]⟩⟩
def feedA (k : Nat) (q0 q1 q2 q3 : Int) : FD := if (feed0 k q0 q1 q2 q3).kind = 4 ∨ (feed0 k q0 q1 q2 q3).kind = 5 then { feed0 k q0 q1 q2 q3 with to := 1 + q2 % 8, txt := ⟨#[]⟩ } else feed0 k q0 q1 q2 q3
def feedC (k : Nat) (q0 q1 q2 q3 : Int) : FD := if (feedA k q0 q1 q2 q3).kind = 5 then { feedA k q0 q1 q2 q3 with txt := splL.getD (q2.tdiv 8 % 4).toNat ⟨#[]⟩ } else feedA k q0 q1 q2 q3
def feedQ (k : Nat) (q : List Int) : FD := feedC k (q.getD 0 0) (q.getD 1 0) (q.getD 2 0) (q.getD 3 0)
def feedsF (l : List (List Int)) : List FD := (l.take 60).mapIdx feedQ
theorem feedsF_len (l : List (List Int)) : (feedsF l).length = min 60 l.length := by unfold feedsF; rw [List.length_mapIdx, List.length_take]
theorem feedsF_at {l : List (List Int)} {k : Nat} (h : k < l.length) (h6 : k < 60) : (feedsF l)[k]'(by rw [feedsF_len]; omega) = feedQ k l[k] := by
  unfold feedsF
  rw [List.getElem_mapIdx, List.getElem_take]
theorem feedsF_take {l : List (List Int)} {k : Nat} (h : k < l.length) (h6 : k < 60) : (feedsF l).take (k + 1) = (feedsF l).take k ++ [feedQ k l[k]] := by
  rw [List.take_succ_eq_append_getElem (by rw [feedsF_len]; omega), feedsF_at h h6]
def smF (x : FD) : Prop := 1 ≤ x.ag ∧ x.ag ≤ 3 ∧ 1 ≤ x.num ∧ x.num ≤ 64 ∧ 0 ≤ x.kind ∧ x.kind ≤ 5 ∧ 1 ≤ x.hd ∧ x.hd ≤ 8 ∧ 0 ≤ x.to ∧ x.to ≤ 8 ∧ (x.txt = ⟨#[]⟩ ∨ x.txt ∈ nameL ∨ x.txt ∈ splL)
theorem kindL_bd (n : Nat) : 0 ≤ kindL.getD n 0 ∧ kindL.getD n 0 ≤ 5 := by
  match n with
  | 0 | 1 | 2 | 3 | 4 | 5 | 6 | 7 | 8 => exact ⟨by decide, by decide⟩
  | n + 9 => exact ⟨by show (0 : Int) ≤ 0; decide, by show (0 : Int) ≤ 5; decide⟩
theorem getD_or (l : List ByteArray) (n : Nat) : l.getD n ⟨#[]⟩ = ⟨#[]⟩ ∨ l.getD n ⟨#[]⟩ ∈ l := by
  rw [List.getD_eq_getElem?_getD]
  cases h : l[n]? with
  | none => exact .inl rfl
  | some x => exact .inr (List.mem_of_getElem? h)
theorem feedQ_sm {k : Nat} (h : k < 60) (q : List Int) : smF (feedQ k q) := by
  unfold feedQ
  generalize q.getD 0 0 = q0; generalize q.getD 1 0 = q1; generalize q.getD 2 0 = q2; generalize q.getD 3 0 = q3
  have h0 : smF (feed0 k q0 q1 q2 q3) := by
    obtain ⟨k1, k2⟩ := kindL_bd (q0 % 9).toNat
    refine ⟨?_, ?_, ?_, ?_, k1, k2, ?_, ?_, ?_, ?_, ?_⟩
    · show 1 ≤ 1 + q3 % 3; omega
    · show 1 + q3 % 3 ≤ 3; omega
    · show 1 ≤ 1 + (k : Int) + q3.tdiv 3 % 4; omega
    · show 1 + (k : Int) + q3.tdiv 3 % 4 ≤ 64; omega
    · show 1 ≤ 1 + q1 % 8; omega
    · show 1 + q1 % 8 ≤ 8; omega
    · exact Int.le_refl _
    · show (0 : Int) ≤ 8; decide
    · exact (getD_or _ _).imp_right .inl
  have hA : smF (feedA k q0 q1 q2 q3) := by
    unfold feedA
    split
    · obtain ⟨a1, a2, a3, a4, a5, a6, a7, a8, a9, a10, a11⟩ := h0
      exact ⟨a1, a2, a3, a4, a5, a6, a7, a8, by show 0 ≤ 1 + q2 % 8; omega, by show 1 + q2 % 8 ≤ 8; omega, .inl rfl⟩
    · exact h0
  unfold feedC
  split
  · obtain ⟨a1, a2, a3, a4, a5, a6, a7, a8, a9, a10, a11⟩ := hA
    exact ⟨a1, a2, a3, a4, a5, a6, a7, a8, a9, a10, (getD_or _ _).imp_right .inr⟩
  · exact hA
theorem feedsF_sm {l : List (List Int)} : ∀ x ∈ feedsF l, smF x := fun x hx => by
  obtain ⟨k, hk, rfl⟩ := List.getElem_of_mem hx
  have h := feedsF_len l
  have h1 : k < l.length := by omega
  rw [feedsF_at h1 (by omega)]
  exact feedQ_sm (by omega) _
theorem txt_sm {t : ByteArray} (h : t = ⟨#[]⟩ ∨ t ∈ nameL ∨ t ∈ splL) : t.size ≤ 13 := by
  have h1 : ∀ t ∈ nameL ++ splL, t.size ≤ 13 := by decide
  rcases h with h | h | h
  · rw [h]; decide
  · exact h1 t (List.mem_append_left _ h)
  · exact h1 t (List.mem_append_right _ h)
theorem smF.size {x : FD} (h : smF x) : x.txt.size ≤ 13 := txt_sm h.2.2.2.2.2.2.2.2.2.2
theorem knw_iff {fs : List FD} {x : FD} : knwF fs x = true ↔ ∃ y ∈ fs, y.num = x.num ∧ y.ag = x.ag := by
  unfold knwF
  rw [List.any_eq_true]
  exact ⟨fun ⟨y, h1, h2⟩ => ⟨y, h1, of_decide_eq_true h2⟩, fun ⟨y, h1, h2⟩ => ⟨y, h1, decide_eq_true h2⟩⟩
theorem knw_false {fs : List FD} {x : FD} (h : ∀ y ∈ fs, ¬(y.num = x.num ∧ y.ag = x.ag)) : knwF fs x = false := by
  cases hq : knwF fs x with
  | false => rfl
  | true => obtain ⟨y, h1, h2⟩ := knw_iff.1 hq; exact absurd h2 (h y h1)
theorem take_new {fs : List FD} {x : FD} (hr : rightF x) (h : ∀ y ∈ fs, ¬(y.num = x.num ∧ y.ag = x.ag)) (hm : fs.length < 5000) : takeF fs x = (0, insF fs x) := by
  unfold takeF
  rw [if_neg (fun h => h hr), if_neg (fun hx => h x hx ⟨rfl, rfl⟩), if_neg (fun ⟨y, hy, he⟩ => h y hy he), if_neg (by omega)]
theorem take_zero {fs : List FD} {x : FD} (h : (takeF fs x).1 = 0) : rightF x ∧ (∀ y ∈ fs, ¬(y.num = x.num ∧ y.ag = x.ag)) ∧ fs.length < 5000 ∧ (takeF fs x).2 = insF fs x := by
  unfold takeF at *
  split at h
  · exact absurd h (show ¬((1 : Int) = 0) by decide)
  rename_i h1
  rw [if_neg h1]
  split at h
  · exact absurd h (show ¬((22 : Int) = 0) by decide)
  rename_i h2
  rw [if_neg h2]
  split at h
  · exact absurd h (show ¬((30 : Int) = 0) by decide)
  rename_i h3
  rw [if_neg h3]
  split at h
  · exact absurd h (show ¬((2 : Int) = 0) by decide)
  rename_i h4
  rw [if_neg h4]
  exact ⟨Decidable.not_not.1 h1, fun y hy he => h3 ⟨y, hy, he⟩, by omega, rfl⟩
theorem take_nz {fs : List FD} {x : FD} (h : (takeF fs x).1 ≠ 0) : (takeF fs x).2 = fs := by
  unfold takeF at *
  split
  · rfl
  rename_i h1
  rw [if_neg h1] at h
  split
  · rfl
  rename_i h2
  rw [if_neg h2] at h
  split
  · rfl
  rename_i h3
  rw [if_neg h3] at h
  split
  · rfl
  rename_i h4
  rw [if_neg h4] at h
  exact absurd rfl h
def apartF (l : List FD) : Prop := l.Pairwise (fun a c => ¬(a.num = c.num ∧ a.ag = c.ag))
theorem all_perm : ∀ (l : List FD), (∀ x ∈ l, rightF x) → apartF l → l.length ≤ 5000 → (takeAll l).Perm l := fun l => by
  refine snocRec (motive := fun l => (∀ x ∈ l, rightF x) → apartF l → l.length ≤ 5000 → (takeAll l).Perm l) (fun _ _ _ => List.Perm.refl _) (fun l a ih hr ha hl => ?_) l
  rw [List.length_append, List.length_singleton] at hl
  have ha2 := List.pairwise_append.1 ha
  have h1 := ih (fun x hx => hr x (List.mem_append_left _ hx)) ha2.1 (by omega)
  rw [takeAll_snoc, take_new (hr a (by simp)) (fun y hy => ha2.2.2 y (h1.mem_iff.1 hy) a (by simp)) (by rw [h1.length_eq]; omega)]
  exact (insF_perm _ _).trans ((h1.cons a).trans (List.perm_append_comm (l₁ := [a])))
theorem srt_ext : ∀ {a c : List FD}, srtF8 a → srtF8 c → (∀ y, y ∈ a ↔ y ∈ c) → a = c
  | [], [], _, _, _ => rfl
  | [], y :: l, _, _, h => absurd ((h y).2 (.head _)) (by simp)
  | x :: l, [], _, _, h => absurd ((h x).1 (.head _)) (by simp)
  | x :: l, y :: m, ha, hc, h => by
    have h1 := List.pairwise_cons.1 ha
    have h2 := List.pairwise_cons.1 hc
    have hxy : x = y := by
      rcases List.mem_cons.1 ((h x).1 (.head _)) with e | e
      · exact e
      rcases List.mem_cons.1 ((h y).2 (.head _)) with e' | e'
      · exact e'.symm
      exact absurd (befF_trans (h1.1 y e') (h2.1 x e)) befF_irr
    subst hxy
    congr 1
    refine srt_ext h1.2 h2.2 fun z => ⟨fun hz => ?_, fun hz => ?_⟩
    · rcases List.mem_cons.1 ((h z).1 (.tail _ hz)) with e | e
      · subst e; exact absurd (h1.1 z hz) befF_irr
      · exact e
    · rcases List.mem_cons.1 ((h z).2 (.tail _ hz)) with e | e
      · subst e; exact absurd (h2.1 z hz) befF_irr
      · exact e
def accF (l : List FD) : List FD := (l.foldl (fun (s : List FD × List FD) f => ((takeF s.1 f).2, if (takeF s.1 f).1 = 0 then s.2 ++ [f] else s.2)) ([], [])).2
theorem accF_fst (l : List FD) : (l.foldl (fun (s : List FD × List FD) f => ((takeF s.1 f).2, if (takeF s.1 f).1 = 0 then s.2 ++ [f] else s.2)) ([], [])).1 = takeAll l := by
  refine snocRec (motive := fun l => (l.foldl (fun (s : List FD × List FD) f => ((takeF s.1 f).2, if (takeF s.1 f).1 = 0 then s.2 ++ [f] else s.2)) ([], [])).1 = takeAll l) rfl (fun l a h => ?_) l
  rw [takeAll_snoc, List.foldl_append]
  show (takeF _ a).2 = _
  rw [h]
theorem accF_snoc (l : List FD) (f : FD) : accF (l ++ [f]) = if (takeF (takeAll l) f).1 = 0 then accF l ++ [f] else accF l := by
  rw [← accF_fst]
  unfold accF
  rw [List.foldl_append]; rfl
theorem accF_perm (l : List FD) : (accF l).Perm (takeAll l) := by
  refine snocRec (motive := fun l => (accF l).Perm (takeAll l)) (List.Perm.refl _) (fun l a h => ?_) l
  rw [accF_snoc, takeAll_snoc]
  by_cases h0 : (takeF (takeAll l) a).1 = 0
  · rw [if_pos h0, (take_zero h0).2.2.2]
    exact (List.perm_append_comm.trans (h.cons a)).trans (insF_perm _ _).symm
  · rw [if_neg h0, take_nz h0]; exact h
theorem accF_sub (l : List FD) : ∀ x ∈ accF l, x ∈ l := by
  refine snocRec (motive := fun l => ∀ x ∈ accF l, x ∈ l) (fun x hx => by cases hx) (fun l a h x hx => ?_) l
  rw [accF_snoc] at hx
  split at hx
  · rcases List.mem_append.1 hx with hx | hx
    · exact List.mem_append_left _ (h x hx)
    · exact List.mem_append_right _ hx
  · exact List.mem_append_left _ (h x hx)
theorem srt_apart {l : List FD} (h : srtF8 l) : apartF l := List.Pairwise.imp (fun {a c} hb he => by unfold befF at hb; omega) h
theorem apart_perm {a c : List FD} (h : a.Perm c) (ha : apartF a) : apartF c := (h.pairwise_iff (fun {x y} hx he => hx ⟨he.1.symm, he.2.symm⟩)).1 ha
theorem accF_ok (l : List FD) : (∀ x ∈ accF l, rightF x) ∧ apartF (accF l) ∧ (accF l).length ≤ 5000 ∧ takeAll (accF l) = takeAll l := by
  have hp := accF_perm l
  have hk := takeAll_ok l
  have h1 : ∀ x ∈ accF l, rightF x := fun x hx => hk.rt x (hp.mem_iff.1 hx)
  have h2 : apartF (accF l) := apart_perm hp.symm (srt_apart hk.srt)
  have h3 : (accF l).length ≤ 5000 := by rw [hp.length_eq]; exact hk.len
  have h4 := all_perm _ h1 h2 h3
  exact ⟨h1, h2, h3, srt_ext (takeAll_ok _).srt hk.srt fun y => (h4.trans hp).mem_iff⟩
theorem takeAll_sub (l : List FD) : ∀ x ∈ takeAll l, x ∈ l := by
  refine snocRec (motive := fun l => ∀ x ∈ takeAll l, x ∈ l) (fun x hx => by cases hx) (fun l a h x hx => ?_) l
  rw [takeAll_snoc] at hx
  by_cases h0 : (takeF (takeAll l) a).1 = 0
  · rw [(take_zero h0).2.2.2] at hx
    rcases insF_mem.1 hx with rfl | hx
    · exact List.mem_append_right _ (.head _)
    · exact List.mem_append_left _ (h x hx)
  · rw [take_nz h0] at hx
    exact List.mem_append_left _ (h x hx)
theorem accF_len (l : List FD) : (accF l).length ≤ l.length := by
  refine snocRec (motive := fun l => (accF l).length ≤ l.length) (Nat.le_refl _) (fun l a h => ?_) l
  rw [accF_snoc, List.length_append, List.length_singleton]
  split
  · rw [List.length_append, List.length_singleton]; omega
  · omega
end Go.PK

namespace Go.PK
open Go Go.RowKit
section
variable {P : Program} {n : Nat} {l : List (Nat × Value)} {own : List (Nat × Obj)} {ro : List Snap} {lops : List Oper} {Q : Exit → Act → World → Prop} {K : Act → World → Prop} {plan : List (Option Bool × Nat)}
theorem x_fix (own' : List (Nat × Obj)) (hs : own'.Sublist own) (h : ∀ w0, Mem w0 own ro → WX P lops.toArray Q K plan n l own' ((w0, notOwn own') :: ro)) : WX P lops.toArray Q K plan n l own ro :=
  fun a w ha hw => h w hw a w ha (hw.fix hs)
end
def exG : List Fl := [⟨⟨#[55, 48, 48]⟩, ⟨#[49, 32]⟩, ⟨#[]⟩, [⟨97, ⟨#[116, 119, 97, 105, 110, 32, 109]⟩⟩]⟩, ⟨⟨#[50, 52, 53]⟩, ⟨#[49, 48]⟩, ⟨#[]⟩, [⟨97, ⟨#[84, 111, 109, 32, 83, 97, 119, 121, 101, 114]⟩⟩]⟩]
def exG2 : List Fl := [⟨⟨#[55, 48, 48]⟩, ⟨#[49, 32]⟩, ⟨#[]⟩, [⟨97, T8b⟩, ⟨48, ⟨#[50]⟩⟩]⟩, ⟨⟨#[50, 52, 53]⟩, ⟨#[49, 48]⟩, ⟨#[]⟩, [⟨97, ⟨#[84, 111, 109, 32, 83, 97, 119, 121, 101, 114]⟩⟩]⟩]
theorem ex_rn : resN8 hs8 (wordsP (titF exG)) 9 2 = some 2 := by kernel_rfl
theorem ex_rew : rewF hs8 exG = exG2 := by
  have h2 := (resolve_of ex_rn).2
  have a1 : rewX hs8 (titF exG) exG[0] = exG2[0] := by
    unfold rewX
    rw [if_pos (by constructor <;> kernel_rfl), show (hdF hs8 exG[0].subs).1 = 2 from by kernel_rfl, h2]
    kernel_rfl
  have a2 : rewX hs8 (titF exG) exG[1] = exG2[1] := by
    unfold rewX
    rw [if_neg (fun h => absurd h.1 (by decide))]
    kernel_rfl
  show [rewX hs8 (titF exG) exG[0], rewX hs8 (titF exG) exG[1]] = [exG2[0], exG2[1]]
  rw [a1, a2]
theorem ex_find' : findF (stF exF).hs ⟨#[67, 76, 69, 77, 69, 78, 83, 44, 32, 83, 97, 109, 117, 101, 108]⟩ = (1, true) := by rw [stF_of ex_st]; exact ex_find
theorem ex_r1' : resolveF (stF exF).hs (wordsP ⟨#[84, 111, 109, 32, 83, 97, 119, 121, 101, 114]⟩) 1 = (2, true) := by rw [stF_of ex_st]; exact (resolve_of ex_r1).1
theorem ex_r2' : resolveF (stF exF).hs (wordsP ⟨#[79, 108, 100, 32, 115, 111, 110, 103, 115]⟩) 1 = (3, true) := by rw [stF_of ex_st]; exact (resolve_of ex_r2).1
end Go.PK

namespace Go.PK
open Go Go.RowKit
def aB : ByteArray := ⟨#[97]⟩
def manyX (k : Nat) : FD := ⟨1, (k : Nat), 1, (k : Nat), 0, aB⟩
def manyL (n : Nat) : List FD := (List.range n).map fun i => manyX (i + 1)
theorem manyL_len (n : Nat) : (manyL n).length = n := by unfold manyL; rw [List.length_map, List.length_range]
theorem manyL_succ (n : Nat) : manyL (n + 1) = manyL n ++ [manyX (n + 1)] := by
  unfold manyL
  rw [List.range_succ, List.map_append]; rfl
theorem manyL_mem {n : Nat} {y : FD} (h : y ∈ manyL n) : ∃ i, i < n ∧ y = manyX (i + 1) := by
  obtain ⟨i, hi, he⟩ := List.mem_map.1 h
  exact ⟨i, List.mem_range.1 hi, he.symm⟩
theorem aB_words : wordsP aB ≠ [] := by
  rw [show wordsP aB = [aB] from by kernel_rfl]
  exact fun h => by cases h
theorem manyX_right {k : Nat} (h : 1 ≤ k) : rightF (manyX k) := ⟨by show (1 : Int) ≤ 1; decide, by show (1 : Int) ≤ (k : Nat); omega, by show (1 : Int) ≤ (k : Nat); omega, .inl ⟨.inl rfl, aB_words⟩⟩
theorem ins_last {l : List FD} {x : FD} (h : ∀ y ∈ l, befF y x) : insF l x = l ++ [x] := by
  rw [insF_at (n := l.length) (Nat.le_refl _) (fun i hi _ => h _ (List.getElem_mem hi)) (fun i hi h2 => absurd hi (by omega)), List.take_length, List.drop_length]
theorem many_step {k : Nat} (h : k < 5000) : takeF (manyL k) (manyX (k + 1)) = (0, manyL (k + 1)) := by
  have hb : ∀ y ∈ manyL k, befF y (manyX (k + 1)) := fun y hy => by
    obtain ⟨i, hi, rfl⟩ := manyL_mem hy
    exact .inl (show ((i + 1 : Nat) : Int) < ((k + 1 : Nat) : Int) by omega)
  rw [take_new (manyX_right (by omega)) (fun y hy he => by have := hb y hy; unfold befF at this; omega) (by rw [manyL_len]; exact h), ins_last hb, manyL_succ]
theorem many_full {x : FD} (hr : rightF x) (h2 : x.ag = 2) : takeF (manyL 5000) x = (2, manyL 5000) := by
  refine take_many hr (knw_false fun y hy he => ?_) (by rw [manyL_len]; exact Nat.le_refl _)
  obtain ⟨i, hi, rfl⟩ := manyL_mem hy
  have : (1 : Int) = x.ag := he.2
  omega
theorem many_two {k : Nat} : rightF ⟨2, (k : Nat) + 1, 1, 1, 0, aB⟩ := ⟨by show (1 : Int) ≤ 2; decide, by show (1 : Int) ≤ (k : Nat) + 1; omega, by show (1 : Int) ≤ 1; decide, .inl ⟨.inl rfl, aB_words⟩⟩
theorem many_twice : takeF (manyL 5000) ⟨1, 1, 1, 1, 0, aB⟩ = (22, manyL 5000) :=
  take_twice (manyX_right (k := 1) (by omega)) (List.mem_map.2 ⟨0, List.mem_range.2 (by omega), rfl⟩)
theorem many_old : takeF (manyL 5000) ⟨1, 1, 1, 2, 0, aB⟩ = (30, manyL 5000) := by
  refine take_old ⟨by show (1 : Int) ≤ 1; decide, by show (1 : Int) ≤ 1; decide, by show (1 : Int) ≤ 2; decide, .inl ⟨.inl rfl, aB_words⟩⟩ (fun h => ?_) (knw_iff.2 ⟨_, List.mem_map.2 ⟨0, List.mem_range.2 (by omega), rfl⟩, rfl, rfl⟩)
  obtain ⟨i, hi, he⟩ := manyL_mem h
  have h1 : (1 : Int) = ((i + 1 : Nat) : Int) := congrArg FD.num he
  have h2 : (2 : Int) = ((i + 1 : Nat) : Int) := congrArg FD.hd he
  omega
theorem many_zero : takeF (manyL 5000) ⟨0, 0, 0, 0, 0, ⟨#[]⟩⟩ = (1, manyL 5000) := take_arg fun h => absurd h.1 (by decide)
end Go.PK

namespace Go.PK
open Go Go.ChangeShapes Go.WideShapes Go.ChangeAt Go.RowKit
structure Meas (H : Type) where
  f : DataW H → Nat
  all : List (DataW H) → Nat
  str : ∀ bs, f (.lit (.string bs)) = bs.length + 1
  slice : ∀ es sp, f (.slice es sp) = all es + all sp + 1
  agg : ∀ ps, f (.agg ps) = all ps + 1
  cons : ∀ d r, all (d :: r) = f d + all r
  one : ∀ d, 1 ≤ f d
theorem Meas.mem_le {H : Type} (M : Meas H) : ∀ {l : List (DataW H)} {d : DataW H}, d ∈ l → M.f d ≤ M.all l
  | x :: r, d, h => by
    rw [M.cons]
    rcases List.mem_cons.1 h with rfl | h
    · omega
    · have := M.mem_le h; omega
theorem Meas.len_le {H : Type} (M : Meas H) : ∀ (l : List (DataW H)), l.length ≤ M.all l
  | [] => Nat.zero_le _
  | x :: r => by
    rw [M.cons, List.length_cons]
    have h1 := M.len_le r
    have h2 := M.one x
    omega
structure RdrN {α : Type} (P : Program) (t : TypeId) (T : Ty α) (N : Nat) : Prop where
  size : P.cellsOf t = T.size
  pos : 0 < T.size
  rd : ∀ {H : Type} {enc : TypeId × Value → H} {w : World} {base : Nat} {sp : Nat → Bool} {held : Bool} {fuel : Nat} {cs : List Value} {x : DataW H × List MemPlace} (M : Meas H), M.f x.1 ≤ N → DataW.trod enc P w base sp held fuel t cs = some x → ∃ y, T.rd (fun _ => True) w cs y
theorem Rdr.N {α : Type} {P : Program} {t : TypeId} {T : Ty α} {N : Nat} (R : Rdr P t T) : RdrN P t T N := ⟨R.size, R.pos, fun _ _ h => R.rd h⟩
def tyStrN (N : Nat) : Ty ByteArray where
  size := 1
  rd := fun _ _ cs x => cs = [.string x] ∧ x.size ≤ N
  len := fun h => by rw [h.1]; rfl
  keep := fun h _ => h
section
variable {P : Program} {H : Type} {enc : TypeId × Value → H}
theorem rdr_sN {t : TypeId} {N : Nat} (ht : P.underlying t = some .string) (hc : P.cellsOf t = 1) : RdrN P t (tyStrN N) N :=
  ⟨hc, Nat.one_pos, fun M hM h => by
    obtain ⟨s, rfl, rfl, hw⟩ := DataW.trod_string ht h
    simp only [M.str] at hM
    have e : s.data.toList.length = s.size := by rw [Array.length_toList]; rfl
    exact ⟨s, rfl, by omega⟩⟩
theorem trod_rdN {α : Type} {T : Ty α} {t e : TypeId} {N fuel base : Nat} {sp : Nat → Bool} {held : Bool} {w : World} {cs : List Value} {x : DataW H × List MemPlace} (ht : P.underlying t = some (.slice e)) (R : RdrN P e T N) (M : Meas H) (hN : M.f x.1 ≤ N) (h : DataW.trod enc P w base sp held fuel t cs = some x) :
    ∃ v xs, cs = [v] ∧ sliceRd T (fun _ => True) w v xs ∧ xs.length ≤ N ∧ ∃ a l c, v = .slice a l c := by
  rcases Go.Deep.open_slice ht h with ⟨rfl, _⟩ | ⟨a, len, cap, m, n, D, Pl, rfl, hb, hl, hm, hmm, hxe, hx⟩
  · exact ⟨_, [], rfl, ⟨none, 0, rfl, Nat.le_refl _, Nat.zero_le _, fun h => by simp at h⟩, Nat.zero_le _, _, _, _, rfl⟩
  · have hlm : len ≤ m := by rw [hmm]; split <;> omega
    have hx' : ∀ i, i < len → ∃ p : List Value × α, w.cells? base (a.add (i * P.cellsOf e)) (P.cellsOf e) = some p.1 ∧ T.rd (fun _ => True) w p.1 p.2 := fun i hi => by
      obtain ⟨cs', h1, h2⟩ := hx i (by omega)
      have hfi : M.f (D i) ≤ N := by
        subst hxe
        have h3 := M.mem_le (List.mem_map.2 ⟨i, List.mem_range.2 hi, rfl⟩ : D i ∈ (List.range len).map D)
        simp only [M.slice] at hN
        omega
      obtain ⟨y, hy⟩ := R.rd M hfi h2
      exact ⟨⟨cs', y⟩, h1, hy⟩
    rcases Nat.eq_zero_or_pos len with h0 | h0
    · subst h0
      exact ⟨_, [], rfl, ⟨some a, cap, rfl, Nat.zero_le _, Nat.zero_le _, fun h => by simp at h⟩, Nat.zero_le _, _, _, _, rfl⟩
    · have hspot : a.spot = none := by
        obtain ⟨p, h1, h2⟩ := hx' 0 h0
        have hpl : 0 < P.cellsOf e := by rw [R.size]; exact R.pos
        unfold World.cells? at h1
        split at h1
        · have := mapM_some_get h1 0 0 (by rw [List.getElem?_range hpl])
          have hlen : p.1.length = P.cellsOf e := by simpa using mapM_some_length h1
          rw [List.getElem?_eq_getElem (by omega)] at this
          have e0 : (a.add (0 * P.cellsOf e)).add 0 = a := by simp [Addr.add]
          rw [e0] at this
          unfold World.cell? at this
          split at this
          · split at this
            · cases this
            · rename_i hns; simpa using hns
          · cases this
        · cases h1
      obtain ⟨b, off, sp'⟩ := a
      simp only at hspot
      subst hspot
      let F : (i : Nat) → (i < len) → List Value × α := fun i hi => (hx' i hi).choose
      have hF : ∀ i (hi : i < len), w.cells? base ((⟨b, off, none⟩ : Addr).add (i * P.cellsOf e)) (P.cellsOf e) = some (F i hi).1 ∧ T.rd (fun _ => True) w (F i hi).1 (F i hi).2 := fun i hi => (hx' i hi).choose_spec
      refine ⟨_, List.ofFn (fun i : Fin len => (F i.1 i.2).2), rfl, ⟨_, cap, by rw [List.length_ofFn], by rw [List.length_ofFn]; exact hl, by rw [List.length_ofFn]; unfold maxLen at hm; omega, fun _ => ⟨b, off, rfl, trivial, ?_, fun j hj => ?_⟩⟩, ?_, _, _, _, rfl⟩
      · obtain ⟨h1, h2⟩ := hF 0 h0
        have hpl : 0 < P.cellsOf e := by rw [R.size]; exact R.pos
        unfold World.cells? at h1
        split at h1
        · have := mapM_some_get h1 0 0 (by rw [List.getElem?_range hpl])
          have hlen : (F 0 h0).1.length = P.cellsOf e := by simpa using mapM_some_length h1
          rw [List.getElem?_eq_getElem (by omega)] at this
          have := cell_lt this
          simpa [Addr.add] using this
        · cases h1
      · have hj' : j < len := by simpa using hj
        obtain ⟨h1, h2⟩ := hF j hj'
        refine ⟨(F j hj').1, fun i hi => ?_, by simpa using h2⟩
        unfold World.cells? at h1
        split at h1
        · have hlen : (F j hj').1.length = P.cellsOf e := by simpa using mapM_some_length h1
          have := mapM_some_get h1 i i (by rw [List.getElem?_range (by omega)])
          rw [List.getElem?_eq_getElem hi, mk_add, mk_add, R.size] at this
          exact this
        · cases h1
      · rw [List.length_ofFn]
        subst hxe
        have h3 := M.len_le ((List.range len).map D)
        simp only [M.slice] at hN
        rw [List.length_map, List.length_range] at h3
        omega
end
section
variable {H : Type} {enc : TypeId × Value → H} {P : Program} {W : World} {base b0 : Nat} {sp : Nat → Bool} {held : Bool} {r : Reach} {t e : TypeId} {v : Value} {d : DataW H} {ps : List MemPlace}
theorem top_sliceN {α : Type} {T : Ty α} {N : Nat} (ht : P.underlying t = some (.slice e)) (R : RdrN P e T N) (M : Meas H) (hM : M.f d ≤ N) (hval : Value.okWide P W r b0 t v) (h : DataW.Trod enc P W base sp held t v d ps) : ∃ xs, sliceRd T (fun _ => True) W v xs ∧ xs.length ≤ N := by
  obtain ⟨n, hn⟩ := h
  obtain ⟨v', xs, hc, hrd, hl, a, l, c, rfl⟩ := trod_rdN ht R M hM hn
  have : v = .slice a l c := by
    cases v <;> simp_all [Value.okWide, Cell.okWide, Cell.ok, Value.cells]
  subst this
  exact ⟨xs, hrd, hl⟩
theorem sliceRd.each {α : Type} {T : Ty α} {D : Nat → Prop} {v : Value} {xs : List α} {w : World} (h : sliceRd T D w v xs) {Q : α → Prop} (hT : ∀ cs x, T.rd D w cs x → Q x) : ∀ x ∈ xs, Q x := by
  intro x hx
  obtain ⟨A, c, h1, h2, h3, h4⟩ := h
  obtain ⟨b, off, e, hD, hb, hc⟩ := h4 (List.length_pos_of_mem hx)
  obtain ⟨j, hj, rfl⟩ := List.getElem_of_mem hx
  obtain ⟨cs, k1, k2⟩ := hc j hj
  exact hT _ _ k2
end
end Go.PK

namespace Go.PK
open Go Go.RowKit
end Go.PK

namespace Go.PK
open Go Go.ChangeShapes Go.WideShapes Go.ChangeAt Go.RowKit
inductive FldsN (P : Program) (N : Nat) : Nat → List Field → (β : Type) → Ty β → Prop where
  | nil (off : Nat) : FldsN P N off [] Unit tyNil
  | cons {α β : Type} {T : Ty α} {U : Ty β} {off : Nat} {f : Field} {fs : List Field} (ho : f.offset = off) (R : RdrN P f.type T N) (h : FldsN P N (off + T.size) fs β U) : FldsN P N off (f :: fs) (α × β) (tyCons T U)
theorem fldsN_of {P : Program} {N : Nat} {H : Type} {enc : TypeId × Value → H} {w : World} {base m : Nat} {sp : Nat → Bool} {held : Bool} {cs : List Value} {off : Nat} {fs : List Field} {β : Type} {U : Ty β} (M : Meas H) (F : FldsN P N off fs β U) :
    (∀ f ∈ fs, ∃ x, M.f x.1 ≤ N ∧ DataW.trod enc P w base sp held m f.type ((cs.drop f.offset).take (P.cellsOf f.type)) = some x) → cs.length = off + U.size → ∃ y, U.rd (fun _ => True) w (cs.drop off) y := by
  induction F with
  | nil off => exact fun _ hl => ⟨(), List.drop_eq_nil_of_le (by rw [hl]; exact Nat.le_refl _)⟩
  | @cons α β T U off f fs ho R F ih =>
    intro h hl
    have hl : cs.length = off + (T.size + U.size) := hl
    obtain ⟨y, hy⟩ := ih (fun g hg => h g (List.mem_cons_of_mem _ hg)) (by omega)
    obtain ⟨x, hM, hx⟩ := h f (List.mem_cons_self ..)
    rw [ho, R.size] at hx
    obtain ⟨z, hz⟩ := R.rd M hM hx
    refine ⟨(z, y), _, _, (List.take_append_drop T.size _).symm, hz, ?_⟩
    rw [List.drop_drop]
    exact hy
theorem rdrN_struct {P : Program} {N : Nat} {t : TypeId} {fs : Array Field} {β : Type} {U : Ty β} (ht : P.underlying t = some (.struct fs)) (hc : P.cellsOf t = U.size) (hp : 0 < U.size) (F : FldsN P N 0 fs.toList β U) : RdrN P t U N :=
  ⟨hc, hp, @fun H enc w base sp held fuel cs x M hM h => by
    obtain ⟨xs, m, hx0, hxl, hl, hx, hh⟩ := DataW.trod_struct ht h
    have := fldsN_of (enc := enc) (base := base) (sp := sp) (held := held) (m := m) (cs := cs) (w := w) M F (fun f hf => by
      obtain ⟨i, hi, rfl⟩ := List.mem_iff_getElem.1 hf
      have h1 := hh i fs.toList[i] (by simp)
      have hi' : i < fs.size := by simpa using hi
      rw [List.getElem?_eq_getElem (by omega)] at h1
      refine ⟨_, ?_, h1⟩
      subst hxl
      have h3 := M.mem_le (List.mem_map.2 ⟨xs[i]'(by omega), List.getElem_mem _, rfl⟩ : (xs[i]'(by omega)).1 ∈ xs.map (fun x => x.1))
      have hM : M.f (.agg (xs.map fun x => x.1)) ≤ N := hM
      rw [M.agg] at hM
      exact Nat.le_trans h3 (by omega)) (by rw [hl, hc]; omega)
    simpa using this⟩
end Go.PK

namespace Go.PK
open Go Go.RowKit
def tyFd : Ty FD where
  size := 6
  rd := fun _ _ cs x => cs = x.cells ∧ in64 x.ag ∧ in64 x.num ∧ in64 x.kind ∧ in64 x.hd ∧ in64 x.to ∧ x.txt.size ≤ 1048576
  len := fun h => by rw [h.1]; rfl
  keep := fun h _ => h
theorem fd_rd {D : Nat → Prop} {w : World} {A : Option Addr} {cp : Nat} {xs : List FD} (h : sliceRd tyFd D w (.slice A xs.length cp) xs) {k : Nat} (hk : k < xs.length) : ∃ b o, A = some ⟨b, o, none⟩ ∧ D b ∧ (∀ j (hj : j < (xs[k].cells).length), w.cell? ⟨b, o + k * 6 + j, none⟩ = some (xs[k].cells)[j]) ∧ in64 xs[k].ag ∧ in64 xs[k].num ∧ in64 xs[k].kind ∧ in64 xs[k].hd ∧ in64 xs[k].to ∧ xs[k].txt.size ≤ 1048576 := by
  obtain ⟨A', c', hv, h1, h2, h3⟩ := h
  injection hv with e1 e2 e3
  subst e1 e3
  obtain ⟨b, o, e, hD, _, hc⟩ := h3 (by omega)
  obtain ⟨cs, k1, k2, k3⟩ := hc k hk
  subst k2
  exact ⟨b, o, e, hD, fun j hj => k1 j hj, k3⟩
abbrev tyFdU : Ty (Int × Int × Int × Int × Int × ByteArray × Unit) := tyCons tyI (tyCons tyI (tyCons tyI (tyCons tyI (tyCons tyI (tyCons (tyStrN 1048576) tyNil)))))
theorem rdr_fd {P : Program} {t : TypeId} (h : RdrN P t tyFdU 1048576) : RdrN P t tyFd 1048576 :=
  ⟨h.size, h.pos, fun M hM hx => by
    obtain ⟨⟨y1, y2, y3, y4, y5, y6, _⟩, hy⟩ := h.rd M hM hx
    obtain ⟨_, _, e0, ⟨e1, k1⟩, _, _, rfl, ⟨e2, k2⟩, _, _, rfl, ⟨e3, k3⟩, _, _, rfl, ⟨e4, k4⟩, _, _, rfl, ⟨e5, k5⟩, _, _, rfl, ⟨e6, k6⟩, e7⟩ := hy
    dsimp only at e1 e2 e3 e4 e5 k1 k2 k3 k4 k5 k6 e6
    have e7 : _ = [] := e7
    refine ⟨⟨y1, y2, y3, y4, y5, y6⟩, ?_, k1, k2, k3, k4, k5, k6⟩
    rw [e0, e1, e2, e3, e4, e5, e6, e7]; rfl⟩
end Go.PK

namespace Go.PK
open Go Go.RowKit
def anoB : ByteArray := ⟨#[97, 110, 111, 116, 104, 101, 114]⟩
theorem ano_words : ((⟨#[]⟩ :: (nameL ++ splL)).all fun t => !(wordsP (t ++ anoB)).isEmpty) = true := by kernel_rfl
theorem ano_ne {t : ByteArray} (h : t = ⟨#[]⟩ ∨ t ∈ nameL ∨ t ∈ splL) : wordsP (t ++ anoB) ≠ [] := by
  have h1 : t ∈ (⟨#[]⟩ :: (nameL ++ splL) : List ByteArray) := by
    rcases h with h | h | h
    · rw [h]; exact .head _
    · exact .tail _ (List.mem_append_left _ h)
    · exact .tail _ (List.mem_append_right _ h)
  have h2 := List.all_eq_true.1 ano_words t h1
  intro h0
  rw [h0] at h2
  cases h2
theorem right_hd {x : FD} (h : rightF x) : rightF { x with hd := x.hd + 1 } := ⟨h.1, h.2.1, by show 1 ≤ x.hd + 1; have := h.2.2.1; omega, h.2.2.2⟩
theorem right_to {x : FD} (h : rightF x) : rightF { x with to := x.to + 1 } := ⟨h.1, h.2.1, h.2.2.1, by
  rcases h.2.2.2 with h1 | ⟨h1, h2⟩ | ⟨h1, h2, h3⟩
  · exact .inl h1
  · exact .inr (.inl ⟨h1, by show 1 ≤ x.to + 1; omega⟩)
  · exact .inr (.inr ⟨h1, by show 1 ≤ x.to + 1; omega, h3⟩)⟩
theorem right_see {x : FD} (h : rightF x) (hs : smF x) : rightF { x with kind := 3, txt := x.txt ++ anoB } := ⟨h.1, h.2.1, h.2.2.1, .inl ⟨.inr (.inr rfl), ano_ne hs.2.2.2.2.2.2.2.2.2.2⟩⟩
theorem ne_see (x : FD) : ({ x with kind := 3, txt := x.txt ++ anoB } : FD) ≠ x := fun h => by
  have h1 : (x.txt ++ anoB).size = x.txt.size := congrArg (fun f : FD => f.txt.size) h
  rw [ByteArray.size_append, show anoB.size = 7 from rfl] at h1
  omega
theorem ne_hd (x : FD) : ({ x with hd := x.hd + 1 } : FD) ≠ x := fun h => by
  have h1 : x.hd + 1 = x.hd := congrArg FD.hd h
  omega
theorem ne_to (x : FD) : ({ x with to := x.to + 1 } : FD) ≠ x := fun h => by
  have h1 : x.to + 1 = x.to := congrArg FD.to h
  omega
theorem all_mem {xs : List FD} (hr : ∀ x ∈ xs, rightF x) (ha : apartF xs) (hl : xs.length ≤ 5000) {y : FD} : y ∈ takeAll xs ↔ y ∈ xs := (all_perm xs hr ha hl).mem_iff
theorem twice_of {xs : List FD} (hr : ∀ x ∈ xs, rightF x) (ha : apartF xs) (hl : xs.length ≤ 5000) {x : FD} (h : x ∈ xs) : takeF (takeAll xs) x = (22, takeAll xs) := take_twice (hr x h) ((all_mem hr ha hl).2 h)
theorem old_of {xs : List FD} (hr : ∀ x ∈ xs, rightF x) (ha : apartF xs) (hl : xs.length ≤ 5000) {x y : FD} (h : x ∈ xs) (hy : rightF y) (h1 : y.num = x.num) (h2 : y.ag = x.ag) (hne : y ≠ x) : takeF (takeAll xs) y = (30, takeAll xs) := by
  have hx := (all_mem hr ha hl).2 h
  exact take_old hy (fun hm => hne (srtF8_key (takeAll_ok xs).srt hm hx ⟨h1, h2⟩)) (knw_iff.2 ⟨x, hx, h1.symm, h2.symm⟩)
end Go.PK

namespace Go.PK
open Go Go.RowKit
theorem nd_len : ∀ (l m : List FD), l.Nodup → (∀ x ∈ l, x ∈ m) → l.length ≤ m.length
  | [], _, _, _ => Nat.zero_le _
  | a :: l, m, hn, hs => by
    have ha := hs a (.head _)
    rw [List.nodup_cons] at hn
    have h1 := nd_len l (m.erase a) hn.2 fun x hx => (List.mem_erase_of_ne (fun e => hn.1 (by rw [← e]; exact hx))).2 (hs x (.tail _ hx))
    rw [List.length_erase_of_mem ha] at h1
    have := List.length_pos_of_mem ha
    rw [List.length_cons]
    omega
theorem srt_nodup {l : List FD} (h : srtF8 l) : l.Nodup := List.Pairwise.imp (fun {a c} hb he => by subst he; exact befF_irr hb) h
structure OrdP (xs : List FD) (S : Nat → Prop) (gs : List FD) : Prop where
  ok : FsOK gs
  mem : ∀ f, f ∈ gs ↔ ∃ n, ∃ h : n < xs.length, S n ∧ f = xs[n]
section
variable {xs gs : List FD} {S S' : Nat → Prop}
theorem OrdP.same (h : OrdP xs S gs) (he : ∀ n, n < xs.length → (S n ↔ S' n)) : OrdP xs S' gs :=
  ⟨h.ok, fun f => by rw [h.mem]; exact ⟨fun ⟨n, h1, h2, h3⟩ => ⟨n, h1, (he n h1).1 h2, h3⟩, fun ⟨n, h1, h2, h3⟩ => ⟨n, h1, (he n h1).2 h2, h3⟩⟩⟩
theorem OrdP.nil (hS : ∀ n, ¬S n) : OrdP xs S [] := ⟨FsOK.nil, fun f => ⟨fun h => (by cases h), fun ⟨n, _, h, _⟩ => absurd h (hS n)⟩⟩
theorem OrdP.len (h : OrdP xs S gs) : gs.length ≤ xs.length := nd_len gs xs (srt_nodup h.ok.srt) fun x hx => by
  obtain ⟨n, h1, _, rfl⟩ := (h.mem x).1 hx
  exact List.getElem_mem h1
theorem apart_at (ha : apartF xs) {i j : Nat} (hi : i < xs.length) (hj : j < xs.length) (h : xs[i].num = xs[j].num ∧ xs[i].ag = xs[j].ag) : i = j := by
  rcases Nat.lt_trichotomy i j with h1 | h1 | h1
  · exact absurd h ((List.pairwise_iff_getElem.1 ha) i j hi hj h1)
  · exact h1
  · exact absurd ⟨h.1.symm, h.2.symm⟩ ((List.pairwise_iff_getElem.1 ha) j i hj hi h1)
theorem OrdP.twice (h : OrdP xs S gs) (hr : ∀ x ∈ xs, rightF x) {n : Nat} (hn : n < xs.length) (hS : S n) : takeF gs xs[n] = (22, gs) := take_twice (hr _ (List.getElem_mem hn)) ((h.mem _).2 ⟨n, hn, hS, rfl⟩)
theorem OrdP.new (h : OrdP xs S gs) (hr : ∀ x ∈ xs, rightF x) (ha : apartF xs) (hl : xs.length < 5000) {n : Nat} (hn : n < xs.length) (hS : ¬S n) : ∃ gs', takeF gs xs[n] = (0, gs') ∧ OrdP xs (fun m => S m ∨ m = n) gs' := by
  have hno : ∀ y ∈ gs, ¬(y.num = xs[n].num ∧ y.ag = xs[n].ag) := fun y hy he => by
    obtain ⟨m, h1, h2, rfl⟩ := (h.mem y).1 hy
    have := apart_at ha h1 hn he
    exact hS (this ▸ h2)
  have ht := take_new (hr _ (List.getElem_mem hn)) hno (Nat.lt_of_le_of_lt h.len hl)
  refine ⟨_, ht, ?_, fun f => ?_⟩
  · have := h.ok.take xs[n]
    rw [ht] at this
    exact this
  · rw [insF_mem, h.mem]
    constructor
    · rintro (rfl | ⟨m, h1, h2, h3⟩)
      · exact ⟨n, hn, .inr rfl, rfl⟩
      · exact ⟨m, h1, .inl h2, h3⟩
    · rintro ⟨m, h1, h2 | rfl, h3⟩
      · exact .inr ⟨m, h1, h2, h3⟩
      · exact .inl h3
theorem OrdP.all (h : OrdP xs S gs) (hr : ∀ x ∈ xs, rightF x) (ha : apartF xs) (hl : xs.length ≤ 5000) (hS : ∀ n, n < xs.length → S n) : gs = takeAll xs :=
  srt_ext h.ok.srt (takeAll_ok xs).srt fun y => by
    rw [h.mem, all_mem hr ha hl]
    constructor
    · rintro ⟨n, h1, _, rfl⟩; exact List.getElem_mem h1
    · intro hy
      obtain ⟨n, h1, rfl⟩ := List.getElem_of_mem hy
      exact ⟨n, h1, hS n h1, rfl⟩
end
def dnS (dn : List Bool) (n : Nat) : Prop := dn[n]? = some true
theorem dnS_set {dn : List Bool} {n m : Nat} (hn : n < dn.length) : dnS (dn.set n true) m ↔ dnS dn m ∨ m = n := by
  unfold dnS
  rw [List.getElem?_set]
  by_cases h : n = m
  · subst h
    rw [if_pos rfl, if_pos hn]
    exact ⟨fun _ => .inr rfl, fun _ => rfl⟩
  · rw [if_neg h]
    exact ⟨.inl, fun h1 => h1.resolve_right (fun e => h e.symm)⟩
theorem dnS_rep {n m : Nat} : ¬dnS (List.replicate n false) m := by
  unfold dnS
  rw [List.getElem?_replicate]
  split <;> (intro h; cases h)
theorem ord_step {xs gs : List FD} {dn : List Bool} (h : OrdP xs (dnS dn) gs) (hr : ∀ x ∈ xs, rightF x) (ha : apartF xs) (hl : xs.length < 5000) (hd : dn.length = xs.length) {n : Nat} (hn : n < xs.length) : ∃ gs', takeF gs xs[n] = (if dn[n]'(by omega) = true then 22 else 0, gs') ∧ OrdP xs (dnS (dn.set n true)) gs' := by
  by_cases h0 : dn[n]'(by omega) = true
  · have hS : dnS dn n := by unfold dnS; rw [List.getElem?_eq_getElem (by omega), h0]
    refine ⟨gs, by rw [if_pos h0]; exact h.twice hr hn hS, h.same fun m _ => ?_⟩
    rw [dnS_set (by omega)]
    exact ⟨.inl, fun h1 => h1.elim id (fun e => e ▸ hS)⟩
  · have hS : ¬dnS dn n := by
      unfold dnS
      rw [List.getElem?_eq_getElem (by omega)]
      intro h1; injection h1 with h1; exact h0 h1
    obtain ⟨gs', h1, h2⟩ := h.new hr ha hl hn hS
    refine ⟨gs', by rw [if_neg h0]; exact h1, h2.same fun m _ => ?_⟩
    rw [dnS_set (by omega)]
end Go.PK

namespace Go.PK
open Go Go.RowKit
theorem acc_ids {hs l : List HG} {x : FD} (h : accS hs x = some l) : l.map (·.id) = hs.map (·.id) ∨ l.map (·.id) = hs.map (·.id) ++ [x.hd] := by
  unfold accS at h
  cases hl : lkH hs x.hd with
  | none =>
    rw [hl] at h
    dsimp only at h
    split at h
    · injection h with h
      rw [← h, List.map_append]; exact .inr rfl
    · cases h
  | some g =>
    rw [hl] at h
    dsimp only at h
    split at h
    · cases h
    split at h
    · cases h
    split at h
    · injection h with h
      rw [← h, setH_ids]; exact .inl rfl
    split at h
    · injection h with h
      rw [← h, setH_ids]; exact .inl rfl
    split at h
    · cases h
    split at h
    · cases h
    split at h
    · injection h with h
      rw [← h, setH_ids]; exact .inl rfl
    · injection h with h
      rw [← h, setH_ids]; exact .inl rfl
theorem st_ids (fs : List FD) : ∀ i ∈ (stF fs).hs.map (·.id), i ∈ fs.map (·.hd) := by
  refine snocRec (motive := fun fs => ∀ i ∈ (stF fs).hs.map (·.id), i ∈ fs.map (·.hd)) (fun i hi => by cases hi) (fun l a h i hi => ?_) fs
  rw [stF_snoc] at hi
  unfold applyS at hi
  rw [List.map_append, List.mem_append]
  cases ha : accS (stF l).hs a with
  | none => rw [ha] at hi; exact .inl (h i hi)
  | some hs =>
    rw [ha] at hi
    rcases acc_ids ha with e | e
    · have hi : i ∈ hs.map (·.id) := hi
      rw [e] at hi; exact .inl (h i hi)
    · have hi : i ∈ hs.map (·.id) := hi
      rw [e] at hi
      rcases List.mem_append.1 hi with hi | hi
      · exact .inl (h i hi)
      · exact .inr hi
theorem idsP_of {fs : List FD} {p : Int → Prop} (h : ∀ f ∈ fs, p f.hd) : ∀ g ∈ (stF fs).hs, p g.id := fun g hg => by
  obtain ⟨f, hf, he⟩ := List.mem_map.1 (st_ids fs g.id (List.mem_map_of_mem hg))
  rw [← he]; exact h f hf
theorem stF_acy8 {fs : List FD} (h : ∀ x ∈ fs, rightF x) : Acy (stF fs).hs := stF_acy h
theorem res_name {hs : List HG} {ws : List ByteArray} {h : Int} : (resolveF hs ws h).2 = (nameF hs h).2 := by
  unfold resolveF nameF
  cases lkH hs h <;> rfl
theorem res_yes {hs : List HG} (ha : Acy hs) {ws : List ByteArray} {h : Int} (hy : (resolveF hs ws h).2 = true) : ∃ g, lkH hs h = some g ∧ resolveF hs ws h = (resF hs ws h, true) ∧ resolveF hs ws (resF hs ws h) = (resF hs ws h, true) := by
  cases hl : lkH hs h with
  | none => unfold resolveF at hy; rw [hl] at hy; cases hy
  | some g =>
    obtain ⟨n, hn⟩ := ha.res ws hl
    refine ⟨g, rfl, by unfold resolveF; rw [hl], ?_⟩
    obtain ⟨g2, h1, _⟩ := hn.last
    unfold resolveF
    rw [h1]
    exact Prod.ext (res_again hn) rfl
structure CirP (F : List FD) (gs : List FD) (b n : Nat) (r : Nat) : Prop where
  hs : (stF gs).hs = (stF F).hs
  ref : (stF gs).ref.length = r
  num : ∀ f ∈ gs, f.num < (b : Int)
  len : gs.length ≤ n
  rt : ∀ f ∈ gs, rightF f
theorem CirP.more {F gs : List FD} {b n r b' n' : Nat} (h : CirP F gs b n r) (hb : b ≤ b') (hn : n ≤ n') : CirP F gs b' n' r := ⟨h.hs, h.ref, fun f hf => by have := h.num f hf; omega, by have := h.len; omega, h.rt⟩
theorem CirP.step {F gs : List FD} {b n r : Nat} (hP : CirP F gs b n r) (hn : n < 5000) (hb : 1 ≤ b) {ws : List ByteArray} {h : Int} (hy : (resolveF (stF gs).hs ws h).2 = true) {x : FD} (hx : x = ⟨9, (b : Nat), 4, (resolveF (stF gs).hs ws h).1, h, ⟨#[]⟩⟩) : takeF gs x = (0, gs ++ [x]) ∧ CirP F (gs ++ [x]) (b + 1) (n + 1) (r + 1) := by
  have ha := stF_acy8 hP.rt
  obtain ⟨g, hl, h1, h2⟩ := res_yes ha hy
  rw [h1] at hx
  obtain ⟨k, hk⟩ := ha.res ws hl
  obtain ⟨g2, hl2, hst⟩ := hk.last
  obtain ⟨m1, m2⟩ := lkH_mem hl
  obtain ⟨m3, m4⟩ := lkH_mem hl2
  have p1 := ha.pos g m1
  have p2 := ha.pos g2 m3
  have hr : rightF x := by
    rw [hx]
    refine ⟨by show (1 : Int) ≤ 9; decide, by show (1 : Int) ≤ (b : Nat); omega, by show 1 ≤ resF _ _ _; rw [← m4]; exact p2.1, .inr (.inl ⟨rfl, by show 1 ≤ h; rw [← m2]; exact p1.1⟩)⟩
  have hbf : ∀ y ∈ gs, befF y x := fun y hy => .inl (by rw [hx]; exact hP.num y hy)
  have hno : ∀ y ∈ gs, ¬(y.num = x.num ∧ y.ag = x.ag) := fun y hy he => by have := hbf y hy; unfold befF at this; omega
  have ht : takeF gs x = (0, gs ++ [x]) := by rw [take_new hr hno (by have := hP.len; omega), ins_last hbf]
  have hacc : accS (stF gs).hs x = none := by
    by_cases hi : g2.into = 0
    · exact acc_may (by rw [hx]; show (4 : Int) ≤ 4; decide) (.inr (by rw [hx]; exact rchB_iff.2 hk.reach))
    · exact acc_dead (by rw [hx]; show (4 : Int) ≠ 1; decide) (fun g' hg' => by
        rw [hx] at hg'
        rw [hl2] at hg'
        injection hg' with hg'
        rw [← hg']; exact hi)
  have hap : stF (gs ++ [x]) = ⟨(stF gs).hs, (stF gs).ref ++ [x]⟩ := by
    rw [stF_snoc]
    unfold applyS
    rw [hacc]
  refine ⟨ht, by rw [hap]; exact hP.hs, by rw [hap, List.length_append, hP.ref]; rfl, fun f hf => ?_, by rw [List.length_append]; have := hP.len; show _ + 1 ≤ _; omega, fun f hf => ?_⟩
  · rcases List.mem_append.1 hf with hf | hf
    · have := hP.num f hf; omega
    · rw [List.mem_singleton.1 hf, hx]; show ((b : Nat) : Int) < ((b + 1 : Nat) : Int); omega
  · rcases List.mem_append.1 hf with hf | hf
    · exact hP.rt f hf
    · rw [List.mem_singleton.1 hf]; exact hr
end Go.PK

namespace Go.PK
open Go Go.RowKit
theorem Qz : (∀ (p : Prop) [Decidable p], (decide p = true) = p) ∧ (∀ (p : Prop) [Decidable p], (decide p = false) = ¬p) ∧ (∀ a b : Bool, ((a && b) = true) = (a = true ∧ b = true)) ∧ (∀ a b : Bool, ((a || b) = true) = (a = true ∨ b = true)) ∧ (∀ a b : Bool, ((a && b) = false) = (a = false ∨ b = false)) ∧ (∀ a b : Bool, ((a || b) = false) = (a = false ∧ b = false)) ∧ (∀ b : Bool, ((!b) = true) = (b = false)) ∧ (∀ b : Bool, ((!b) = false) = (b = true)) ∧ (∀ (p : Prop) [Decidable p], (¬¬p) = p) :=
  ⟨fun p _ => decide_eq_true_eq, fun p _ => propext decide_eq_false_iff_not, Bool.and_eq_true, Bool.or_eq_true, fun a b => propext Bool.and_eq_false_iff, fun a b => propext Bool.or_eq_false_iff, Bool.not_eq_true', Bool.not_eq_false', fun p _ => propext Decidable.not_not⟩
theorem Qy : (∀ (a : Bool × Bool) (xs bs : List (Bool × Bool)), (a :: xs) ++ bs = a :: (xs ++ bs)) ∧ (∀ xs : List (Bool × Bool), [] ++ xs = xs) ∧ (∀ v, gvl [] v = v) ∧ (∀ gs v, gvl ((true, true) :: gs) v = gvl gs v) ∧ (∀ gs v, gvl ((false, false) :: gs) v = gvl gs v) := ⟨fun _ _ _ => rfl, fun _ => rfl, gvl_nil, gvl_t, gvl_f⟩
abbrev Vi (n : Int) : Value := .int .i64 n
abbrev Pt (p : Nat) : Value := .pointer (some ⟨p, 0, none⟩)
abbrev Bk (p : Nat) (l : List Value) (t : TypeId) : Nat × Obj := (p, .cells l.toArray t)
theorem Zo {p : Prop} (h : p := by first | omega | (dsimp only; omega)) : p := h
theorem Zh {p : Prop} (h : p := by repeat (first | exact List.Mem.head _ | apply List.Mem.tail)) : p := h
theorem Zi {p : Prop} (h : p := by repeat (first | exact List.Mem.head _ | apply List.Mem.tail | apply List.mem_append_right)) : p := h
theorem Zu {p : Prop} (h : p := by repeat (first | exact Sub.nil | refine Sub.cons rfl ?_)) : p := h
theorem Zk {p : Prop} (h : p := by kernel_rfl) : p := h
theorem Zx {p : Prop} (h : p := by simp only [maxLen]; omega) : p := h
section
variable {P : Program} {n : Nat} {l : List (Nat × Value)} {own : List (Nat × Obj)} {ro : List Snap} {lops : List Oper} {Q : Exit → Act → World → Prop} {K : Act → World → Prop}
  {rest : List (Option Bool × Nat)} {k : Option Bool} {i d j dj : Nat} {op : Op} {ty t : TypeId} {pos : String} {af : Array Edge} {x : Operand} {v : Value} {b c want : Bool}
theorem Xm (h : WX P lops.toArray Q K rest n ((d, v) :: l) own ro) (ho : lops[i]? = some ⟨some d, .move x, ty, pos, af, none⟩ := by exact rfl) (hk : k.getD true = true := by exact rfl) (hd : decide (d < n) = true := by exact rfl) (hx : ev l x = some v := by exact rfl) : WX P lops.toArray Q K ((k, i) :: rest) n l own ro := x_val ho hk hd (v_move hx) h
theorem Xa (h : WX P lops.toArray Q K rest n ((d, v) :: l) own ro) (ho : lops[i]? = some ⟨some d, .assign x, ty, pos, af, none⟩ := by exact rfl) (hk : k.getD true = true := by exact rfl) (hd : decide (d < n) = true := by exact rfl) (hx : ev l x = some v := by exact rfl) : WX P lops.toArray Q K ((k, i) :: rest) n l own ro := x_val ho hk hd (v_assign hx) h
theorem Xv (ho : lops[i]? = some ⟨some d, op, ty, pos, af, none⟩) (hv : OpV P n l own ro op ty v) (h : WX P lops.toArray Q K rest n ((d, v) :: l) own ro) (hk : k.getD true = true := by exact rfl) (hd : decide (d < n) = true := by exact rfl) : WX P lops.toArray Q K ((k, i) :: rest) n l own ro := x_val ho hk hd hv h
theorem Xb (ho : lops[i]? = some ⟨some d, op, ty, pos, af, none⟩) (hv : OpV P n l own ro op ty (.bool b)) (h : ∀ c, c = b → WX P lops.toArray Q K rest n ((d, .bool c) :: l) own ro) (hk : k.getD true = true := by exact rfl) (hd : decide (d < n) = true := by exact rfl) : WX P lops.toArray Q K ((k, i) :: rest) n l own ro := x_bool ho hk hd hv h
theorem Xi (ho : lops[i]? = some ⟨some d, op, ty, pos, af, some (j, want)⟩) (hj : (lops[j]?).bind (·.dst) = some dj) (hb : l.lookup dj = some (.bool b)) (hv : b = want → OpV P n l own ro op ty v) (h : WX P lops.toArray Q K rest n ((d, gvl ([] ++ [(b, want)]) v) :: l) own ro) (hk : k.getD true = true := by exact rfl) (hd : decide (d < n) = true := by exact rfl) : WX P lops.toArray Q K ((k, i) :: rest) n l own ro := x_if [] ho hj hb hk hd (fun hg => hv hg.1) h
theorem Xg (h : WX P lops.toArray Q K rest n ((d, gvl ([] ++ [(b, want)]) v) :: l) own ro) (ho : lops[i]? = some ⟨some d, .move x, ty, pos, af, some (j, want)⟩ := by exact rfl) (hj : (lops[j]?).bind (·.dst) = some dj := by exact rfl) (hb : l.lookup dj = some (.bool b) := by exact rfl) (hk : k.getD true = true := by exact rfl) (hd : decide (d < n) = true := by exact rfl) (hx : b = want → ev l x = some v := by intro hg0; (try subst hg0); (try simp only [Qy]); exact rfl) : WX P lops.toArray Q K ((k, i) :: rest) n l own ro := x_if [] ho hj hb hk hd (fun hg => v_move (hx hg.1)) h
theorem Xj (ho : lops[i]? = some ⟨some d, op, ty, pos, af, some (j, want)⟩) (hj : (lops[j]?).bind (·.dst) = some dj) (hb : l.lookup dj = some (.bool b)) (hv : b = want → OpV P n l own ro op ty (.bool c)) (h : ∀ c', c' = c → WX P lops.toArray Q K rest n ((d, gvl ([] ++ [(b, want)]) (.bool c')) :: l) own ro) (hk : k.getD true = true := by exact rfl) (hd : decide (d < n) = true := by exact rfl) : WX P lops.toArray Q K ((k, i) :: rest) n l own ro := x_ifb [] ho hj hb hk hd (fun hg => hv hg.1) h
theorem Vl {td : TypeDesc} {p o : Nat} (ht : P.underlying t = some td) (hx : ev l x = some (.pointer (some ⟨p, o, none⟩))) (hd : aggT td = false := by exact rfl) (hc : At own ro p o v := by first | exact at_ownL (.head _) rfl | exact at_ownL (.tail _ (.head _)) rfl | exact at_ownL (.tail _ (.tail _ (.head _))) rfl | (apply at_ownL; ((repeat (first | exact List.Mem.head _ | apply List.Mem.tail | apply List.mem_append_right))); rfl) | (refine at_ro (by first | exact .head _ | exact .tail _ (.head _) | exact .tail _ (.tail _ (.head _)) | simp) ?_ (by assumption); trivial)) : OpV P n l own ro (.load t x) ty v := v_load ht hd hx hc
theorem Ze (h : S K n l own ro) : WX P lops.toArray Q K [] n l own ro := x_end h
theorem Zt {y : Code} (h : W P y Q n l own ro) : S (Exit.then (y.wp P Q) Q .normal) n l own ro := h
theorem Zs {x y : Code} (h : W P x (Exit.then (y.wp P Q) Q) n l own ro) : W P (.seq x y) Q n l own ro := w_seq h
theorem Zr {id : Nat} (h : WX P lops.toArray Q (fun a w => Q .normal a w) (tailFrom 0 lops.length) n l own ro) : W P (.region id lops.toArray false) Q n l own ro := rg_text h
theorem Xf {fs : Array Field} {f : Field} {m a off : Nat} (off' : Nat) (ho : lops[i]? = some ⟨some d, .fieldAddr t x j, ty, pos, af, none⟩) (ht : P.underlying t = some (.struct fs)) (hf : fs[j]? = some f) (hs : (P.info? f.type).map (·.size) = some m) (h : WX P lops.toArray Q K rest n ((d, .pointer (some ⟨a, off', none⟩)) :: l) own ro)
    (hm : m ≠ 0 := by decide) (hx : ev l x = some (.pointer (some ⟨a, off, none⟩)) := by exact rfl) (ho' : off + f.offset = off' := by exact rfl) (hk : k.getD true = true := by exact rfl) (hd : decide (d < n) = true := by exact rfl) : WX P lops.toArray Q K ((k, i) :: rest) n l own ro := x_val ho hk hd (v_fieldAddr ht hf hs hm hx ho') h
theorem Xn (h : WX P lops.toArray Q K rest n ((d, v) :: l) own ro) (ho : lops[i]? = some ⟨some d, .nilCheck x, ty, pos, af, none⟩ := by exact rfl) (hk : k.getD true = true := by exact rfl) (hd : decide (d < n) = true := by exact rfl) (hv : OpV P n l own ro (.nilCheck x) ty v := by exact v_nilCheck rfl) : WX P lops.toArray Q K ((k, i) :: rest) n l own ro := x_val ho hk hd hv h
theorem Xe {e : Nat} (h : WX P lops.toArray Q K rest n ((d, v) :: l) own ro) (ho : lops[i]? = some ⟨some d, .extract x e, ty, pos, af, none⟩ := by exact rfl) (hk : k.getD true = true := by exact rfl) (hd : decide (d < n) = true := by exact rfl) (hv : OpV P n l own ro (.extract x e) ty v := by exact v_extract rfl rfl) : WX P lops.toArray Q K ((k, i) :: rest) n l own ro := x_val ho hk hd hv h
theorem Xl {td : TypeDesc} {p o : Nat} (ho : lops[i]? = some ⟨some d, .load t x, ty, pos, af, none⟩) (ht : P.underlying t = some td) (hx : ev l x = some (.pointer (some ⟨p, o, none⟩))) (hc : At own ro p o v) (h : WX P lops.toArray Q K rest n ((d, v) :: l) own ro) (hd' : aggT td = false := by exact rfl) (hk : k.getD true = true := by exact rfl) (hd : decide (d < n) = true := by exact rfl) : WX P lops.toArray Q K ((k, i) :: rest) n l own ro := x_val ho hk hd (v_load ht hd' hx hc) h
end
end Go.PK
