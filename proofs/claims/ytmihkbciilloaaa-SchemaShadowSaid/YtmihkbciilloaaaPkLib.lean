/- Of the proofs of Ytmihkbciilloaaa; see NOTES.md. -/
import Derived.Test.YtmihkbciilloaaaPkData
namespace Go.PK
open Go Go.RowKit
set_option linter.unusedVariables false
set_option linter.unusedSimpArgs false

/-- bytealg.IndexByteString, which has no body. -/
theorem v_idxb {P : Program} {n : Nat} {l : List (Nat × Value)} {own : List (Nat × Obj)} {ro : List Snap} {ty : TypeId} {f : FuncId} {fn : Func} {x y : Operand} {tys : Array TypeId} {s : ByteArray} {c : Int}
    (hf : P.funcs[f]? = some fn) (hname : (fn.name == "runtime.NumGoroutine") = false) (hb : fn.body.isNone = true) (hn : Extern.findNext fn = none) (he : Extern.find fn = some Extern.BytealgIndexByte.indexByte)
    (hx : ev l x = some (.string s)) (hy : ev l y = some (.int .u8 c)) : OpV P n l own ro (.call ⟨.value (.func f), #[x, y], tys⟩) ty (.int .i64 (firstIdx s c.toNat.toUInt8)) := by
  intro a w o ha _ ho _
  have h0 : a.eval (.func f) = .func (.func f) #[] #[] := rfl
  have h4 := run_indexByte_string (P := P) s c w
  simp [execOp, ho, resolve, h0, ha.eval hx, ha.eval hy, Deferred.ofValue, invoke, run_callFunc_extern hf hname hb hn he]
  rw [h4]
  rfl
/-- Does the byte stand in the string? -/
def hasB (s : ByteArray) (c : UInt8) : Bool := decide (∃ j, j < s.size ∧ byteAt s j = c)
theorem hasB_iff {s : ByteArray} {c : UInt8} : hasB s c = true ↔ ∃ j, j < s.size ∧ byteAt s j = c := by simp [hasB]
theorem get!_eq {s : ByteArray} {i : Nat} (h : i < s.size) : s[i]! = byteAt s i := by
  rw [byteAt_eq h]
  exact getElem!_pos s i h
theorem firstIdx_nonneg (s : ByteArray) (c : UInt8) : (0 ≤ firstIdx s c) = (hasB s c = true) := by
  rw [hasB_iff]
  unfold firstIdx
  cases h : (List.range s.size).find? fun i => s[i]! == c with
  | none =>
    simp only [eq_iff_iff]
    constructor
    · intro h0; omega
    · rintro ⟨j, hj, hb⟩
      have := List.find?_eq_none.1 h j (List.mem_range.2 hj)
      rw [get!_eq hj] at this
      simp [hb] at this
  | some i =>
    simp only [eq_iff_iff]
    constructor
    · intro _
      have h1 := List.find?_some h
      have h2 := List.mem_range.1 (List.mem_of_find?_eq_some h)
      rw [get!_eq h2] at h1
      exact ⟨i, h2, by simpa using h1⟩
    · intro _; omega
theorem firstIdx_ge (s : ByteArray) (c : UInt8) : -1 ≤ firstIdx s c ∧ firstIdx s c < s.size ∨ firstIdx s c = -1 := by
  unfold firstIdx
  cases h : (List.range s.size).find? fun i => s[i]! == c with
  | none => right; rfl
  | some i =>
    left
    have h2 := List.mem_range.1 (List.mem_of_find?_eq_some h)
    simp only
    omega
theorem firstIdx_one {s : ByteArray} (h : s.size = 1) : firstIdx s (byteAt s 0) = 0 := by
  unfold firstIdx
  rw [h]
  have h0 : (s[0]! == byteAt s 0) = true := by rw [get!_eq (by omega)]; simp
  have : (List.range 1).find? (fun i => s[i]! == byteAt s 0) = some 0 := by
    simp only [List.range_succ, List.range_zero, List.nil_append, List.find?_cons, h0]
  rw [this]
  rfl
theorem u8b (c : UInt8) : ((c.toNat : Nat) : Int).toNat.toUInt8 = c := by simp
theorem firstIdx_nn (s : ByteArray) (c : UInt8) : 0 ≤ firstIdx s c ↔ hasB s c = true := by
  have h := firstIdx_nonneg s c
  simpa using h
theorem u8_eq {a b : UInt8} (h : (a.toNat : Int) = (b.toNat : Int)) : a = b := UInt8.toNat_inj.1 (by omega)
theorem u8_ne {a b : UInt8} (h : ¬(a.toNat : Int) = (b.toNat : Int)) : a ≠ b := fun e => h (by rw [e])
theorem tmod_bd (a m : Int) (h : 0 < m) : -m < a.tmod m ∧ a.tmod m < m :=
  ⟨by have := Int.lt_tmod_of_pos a h; omega, Int.tmod_lt_of_pos a h⟩
theorem tmod_mod (a m : Int) (h : 0 < m) : (a.tmod m + m).tmod m = a % m := by
  have h1 := tmod_bd a m h
  rw [Int.tmod_eq_emod_of_nonneg (by omega), Int.add_emod_right]
  have h2 := Int.mul_tdiv_add_tmod a m
  conv => rhs; rw [← h2]
  rw [Int.mul_add_emod_self_left]
/-- Is p the head of s? -/
def pre (s p : ByteArray) : Bool := decide (p.size ≤ s.size ∧ s.extract 0 p.size = p)
def ctl (t : ByteArray) : Bool := pre t ⟨#[48, 48]⟩
theorem byteAt_extract {t : ByteArray} {a b j : Nat} (h : a + j < b) (hb : b ≤ t.size) : byteAt (t.extract a b) j = byteAt t (a + j) := by
  have h1 : j < (t.extract a b).size := by rw [ByteArray.size_extract]; omega
  rw [byteAt_eq h1, byteAt_eq (by omega), ByteArray.getElem_extract]
theorem hasB_digits (c : UInt8) : (hasB ⟨#[48, 49, 50, 51, 52, 53, 54, 55, 56, 57]⟩ c = true) ↔ 48 ≤ c.toNat ∧ c.toNat ≤ 57 := by
  rw [hasB_iff]
  constructor
  · rintro ⟨j, hj, rfl⟩
    have hj' : j < 10 := hj
    match j, hj' with
    | 0, _ | 1, _ | 2, _ | 3, _ | 4, _ | 5, _ | 6, _ | 7, _ | 8, _ | 9, _ => exact ⟨by decide, by decide⟩
  · rintro ⟨h1, h2⟩
    refine ⟨c.toNat - 48, by show c.toNat - 48 < 10; omega, ?_⟩
    have : ∀ k, k < 10 → byteAt ⟨#[48, 49, 50, 51, 52, 53, 54, 55, 56, 57]⟩ k = UInt8.ofNat (48 + k) := by decide
    rw [this _ (by omega), show 48 + (c.toNat - 48) = c.toNat by omega]
    simp
def okM (p t : ByteArray) (k : Nat) : Prop := byteAt t k = byteAt p k ∨ byteAt p k = 120 ∧ 48 ≤ (byteAt t k).toNat ∧ (byteAt t k).toNat ≤ 57
instance (p t : ByteArray) (k : Nat) : Decidable (okM p t k) := by unfold okM; infer_instance
/-- Does a tag match the tag of a rule? -/
def mtc (p t : ByteArray) : Bool := decide (p.size = t.size ∧ ∀ k, k < t.size → okM p t k)
theorem m_no {p t : ByteArray} {k : Nat} (h : ¬((byteAt t k).toNat : Int) = (byteAt p k).toNat ∧ (¬((byteAt p k).toNat : Int) = 120 ∨ ¬(48 ≤ (byteAt t k).toNat ∧ (byteAt t k).toNat ≤ 57))) : ¬ okM p t k := by
  obtain ⟨h1, h2⟩ := h
  rintro (h3 | ⟨h3, h4⟩)
  · exact h1 (by rw [h3])
  · rcases h2 with h2 | h2
    · exact h2 (by rw [h3]; rfl)
    · exact h2 h4
theorem m_yes {p t : ByteArray} {k : Nat} (h : ((byteAt t k).toNat : Int) = (byteAt p k).toNat ∨ ((byteAt p k).toNat : Int) = 120 ∧ (48 ≤ (byteAt t k).toNat ∧ (byteAt t k).toNat ≤ 57)) : okM p t k := by
  rcases h with h | ⟨h1, h2⟩
  · exact .inl (u8_eq h)
  · exact .inr ⟨u8_eq (b := 120) (by rw [h1]; rfl), h2⟩
theorem mtc_true {p t : ByteArray} (h : p.size = t.size) (hk : ∀ k, k < t.size → okM p t k) : mtc p t = true := decide_eq_true ⟨h, hk⟩
theorem mtc_size {p t : ByteArray} (h : ¬ p.size = t.size) : mtc p t = false := decide_eq_false fun x => h x.1
theorem mtc_at {p t : ByteArray} {k : Nat} (h : k < t.size) (hk : ¬ okM p t k) : mtc p t = false := decide_eq_false fun x => hk (x.2 k h)
theorem snoc_all {k : Nat} {p : Nat → Prop} (h : ∀ j, j < k → p j) (hk : p k) : ∀ j, j < k + 1 → p j := fun j hj => by
  rcases Nat.lt_succ_iff_lt_or_eq.1 hj with h1 | rfl
  · exact h j h1
  · exact hk
/-- The first index, or -1. -/
def fidx {α : Type} (p : α → Bool) (xs : List α) : Int := match xs.findIdx? p with | some i => (i : Nat) | none => -1
theorem fidx_at {α : Type} {p : α → Bool} {xs : List α} {k : Nat} (hk : k < xs.length) (h : p xs[k] = true) (hn : ∀ j (hj : j < xs.length), j < k → p xs[j] = false) : fidx p xs = k := by
  unfold fidx
  have : xs.findIdx? p = some k := by
    rw [List.findIdx?_eq_some_iff_getElem]
    exact ⟨hk, h, fun j hj => by rw [hn j (by omega) hj]; exact Bool.false_ne_true⟩
  rw [this]
theorem fidx_none {α : Type} {p : α → Bool} {xs : List α} (hn : ∀ j (hj : j < xs.length), p xs[j] = false) : fidx p xs = -1 := by
  unfold fidx
  have : xs.findIdx? p = none := by
    rw [List.findIdx?_eq_none_iff]
    intro x hx
    obtain ⟨j, hj, rfl⟩ := List.mem_iff_getElem.1 hx
    exact hn j hj
  rw [this]
theorem fidx_nn {α : Type} (p : α → Bool) (xs : List α) : (0 ≤ fidx p xs) ↔ xs.any p = true := by
  unfold fidx
  cases h : xs.findIdx? p with
  | none =>
    simp only [List.any_eq_true]
    rw [List.findIdx?_eq_none_iff] at h
    constructor
    · intro h0; omega
    · rintro ⟨x, hx, hp⟩; rw [h x hx] at hp; cases hp
  | some i =>
    simp only [List.any_eq_true]
    obtain ⟨hi, hp, _⟩ := List.findIdx?_eq_some_iff_getElem.1 h
    exact ⟨fun _ => ⟨_, List.getElem_mem hi, hp⟩, fun _ => by omega⟩
theorem snoc_all' {n k : Nat} {p : (j : Nat) → j < n → Prop} (h : ∀ j (hj : j < n), j < k → p j hj) (hk : ∀ hj : k < n, p k hj) : ∀ j (hj : j < n), j < k + 1 → p j hj := fun j hj h1 => by
  rcases Nat.lt_succ_iff_lt_or_eq.1 h1 with h2 | rfl
  · exact h j hj h2
  · exact hk hj
theorem idx_neg (s : ByteArray) (c : UInt8) : decide (firstIdx s c < 0) = !hasB s c := by
  have h := firstIdx_nn s c
  cases hb : hasB s c with
  | true => rw [hb] at h; have := h.2 rfl; simp; omega
  | false => rw [hb] at h; have : ¬ 0 ≤ firstIdx s c := fun x => Bool.false_ne_true (h.1 x); simp; omega
theorem empty_iff (s : ByteArray) : (s = ⟨#[]⟩) = (s.size = 0) := by
  rw [eq_iff_iff]
  constructor
  · rintro rfl; rfl
  · intro h; exact ByteArray.ext (Array.eq_empty_of_size_eq_zero h)
theorem two_iff (n : Nat) : ((n : Int) = 2) = (n = 2) := by rw [eq_iff_iff]; omega
/-- Has a field the right parts? -/
def shp (f : Fl) : Bool := if ctl f.tag = true then decide (f.ind.size = 0 ∧ f.subs = []) else decide (f.data.size = 0 ∧ f.ind.size = 2 ∧ f.subs ≠ [])
def cdAt (l : List Sb) (j : Nat) : UInt8 := (l.getD j ⟨0, ⟨#[]⟩⟩).code
theorem cdAt_eq {l : List Sb} {j : Nat} (h : j < l.length) : cdAt l j = l[j].code := by unfold cdAt; rw [List.getD_eq_getElem?_getD, List.getElem?_eq_getElem h]; rfl
def dupAt (single : ByteArray) (l : List Sb) (j : Nat) : Prop := (∃ i, i < j ∧ cdAt l i = cdAt l j) ∧ hasB single (cdAt l j) = true
/-- Does a code that may occur only once occur again? -/
noncomputable def dup (single : ByteArray) (l : List Sb) : Bool := @decide (∃ j, j < l.length ∧ dupAt single l j) (Classical.propDecidable _)
theorem dup_yes {single : ByteArray} {l : List Sb} {j : Nat} (h : j < l.length) (hd : dupAt single l j) : dup single l = true := by unfold dup; exact @decide_eq_true _ (Classical.propDecidable _) ⟨j, h, hd⟩
theorem dup_no {single : ByteArray} {l : List Sb} (h : ∀ j, j < l.length → ¬ dupAt single l j) : dup single l = false := by unfold dup; exact @decide_eq_false _ (Classical.propDecidable _) (fun ⟨j, hj, hd⟩ => h j hj hd)
theorem dupAt_mk {single : ByteArray} {l : List Sb} {k : Nat} {c : UInt8} (hc : cdAt l k = c) (h : (∃ j, j < k ∧ (cdAt l j).toNat = c.toNat) ∧ hasB single c = true) : dupAt single l k := by
  obtain ⟨⟨j, hj, he⟩, h2⟩ := h
  exact ⟨⟨j, hj, by rw [hc]; exact UInt8.toNat_inj.1 he⟩, by rw [hc]; exact h2⟩
theorem dupAt_not {single : ByteArray} {l : List Sb} {k : Nat} {c : UInt8} (hc : cdAt l k = c) (hd : dupAt single l k) (h : (¬ ∃ j, j < k ∧ (cdAt l j).toNat = c.toNat) ∨ ¬ hasB single c = true) : False := by
  obtain ⟨⟨j, hj, he⟩, h2⟩ := hd
  rw [hc] at he h2
  rcases h with h | h
  · exact h ⟨j, hj, by rw [he]⟩
  · exact h h2
theorem seen_init (l : List Sb) {k : Nat} (hk : k = 0) : ∀ c, c < 256 → (List.replicate 256 false)[c]? = some (decide (∃ j, j < k ∧ (cdAt l j).toNat = c)) := by
  generalize 256 = m
  intro c hc
  rw [List.getElem?_replicate, if_pos hc, decide_eq_false]
  rintro ⟨j, hj, _⟩
  omega
theorem seen_set {l : List Sb} {k : Nat} {c : UInt8} {bs : List Bool} (hc : cdAt l k = c) (hl : bs.length = 256) (h : ∀ x, x < 256 → bs[x]? = some (decide (∃ j, j < k ∧ (cdAt l j).toNat = x))) :
    ∀ x, x < 256 → (bs.set c.toNat true)[x]? = some (decide (∃ j, j < k + 1 ∧ (cdAt l j).toNat = x)) := by
  intro x hx
  rw [List.getElem?_set]
  by_cases hcx : c.toNat = x
  · rw [if_pos hcx, if_pos (by omega)]
    rw [decide_eq_true (⟨k, by omega, by rw [hc]; exact hcx⟩ : ∃ j, j < k + 1 ∧ (cdAt l j).toNat = x)]
  · rw [if_neg hcx, h x hx]
    congr 1
    rw [Bool.eq_iff_iff, decide_eq_true_iff, decide_eq_true_iff]
    constructor
    · rintro ⟨j, hj, he⟩; exact ⟨j, by omega, he⟩
    · rintro ⟨j, hj, he⟩
      rcases Nat.lt_succ_iff_lt_or_eq.1 hj with h1 | rfl
      · exact ⟨j, h1, he⟩
      · rw [hc] at he; exact absurd he hcx
theorem cells_set {bs : List Bool} {c : Nat} (h : c < bs.length) : (List.take (0 + c * 1) (bs.map Value.bool) ++ (Value.bool true).cells.toList ++ List.drop (0 + c * 1 + 1) (bs.map Value.bool)) = (bs.set c true).map Value.bool := by
  rw [Nat.zero_add, Nat.mul_one, List.map_set, List.set_eq_take_append_cons_drop, if_pos (by simpa using h)]
  simp [Value.cells]
/-- The cells of a place: the fields, the number, the rule. -/
def plC (v : Value) (n : Int) (r : Rl) : List Value := [v, .int .i64 n, .string r.tag, .bool r.must, .bool r.once, .string r.i0, .string r.i1, .string r.codes, .string r.single]
def flC (f : Fl) (B : Option Addr) (c : Nat) : List Value := [.string f.tag, .string f.ind, .string f.data, .slice B f.subs.length c]
/-- What field n of a slice of fields holds. -/
structure FAt (w : World) (v : Value) (n : Nat) (f : Fl) (B : Option Addr) (c : Nat) : Prop where
  ex : ∃ b off len cap, v = .slice (some ⟨b, off, none⟩) len cap ∧ n < len ∧ len ≤ 9223372036854775807 ∧ ∀ i (hi : i < (flC f B c).length), w.cell? ⟨b, off + n * 4 + i, none⟩ = some (flC f B c)[i]
theorem FAt.later {w w' : World} {v : Value} {n : Nat} {f : Fl} {B : Option Addr} {c : Nat} (h : FAt w v n f B c) (hl : Later w w') : FAt w' v n f B c := by
  obtain ⟨b, off, len, cap, h1, h2, h3, h4⟩ := h.ex
  exact ⟨b, off, len, cap, h1, h2, h3, fun i hi => (hl.cell (p := ⟨b, off + n * 4 + i, none⟩) (cell_lt (h4 i hi))).trans (h4 i hi)⟩
theorem fat_of {D : Nat → Prop} {w : World} {v : Value} {fs : List Fl} (h : sliceRd tyFl D w v fs) {n : Nat} (hn : n < fs.length) : ∃ B c, FAt w v n fs[n] B c ∧ fs[n].ok ∧ sliceRd tySb D w (.slice B fs[n].subs.length c) fs[n].subs := by
  obtain ⟨A, c, rfl, h1, h2, h3⟩ := h
  obtain ⟨b, off, rfl, hD, hb, hc⟩ := h3 (by omega)
  obtain ⟨cs, h4, v', rfl, hok, h5⟩ := hc n hn
  obtain ⟨B, c', rfl, h6, h7, h8⟩ := h5
  exact ⟨B, c', ⟨b, off, _, _, rfl, hn, h2, h4⟩, hok, ⟨B, c', rfl, h6, h7, h8⟩⟩
/-- What a variable of type place holds. -/
def PAt (w : World) (q : Nat) (v : Value) (n : Int) (r : Rl) : Prop := ∀ i (hi : i < (plC v n r).length), w.cell? ⟨q, i, none⟩ = some (plC v n r)[i]
theorem pat_own {w : World} {own : List (Nat × Obj)} {ro : List Snap} {q : Nat} {v : Value} {n : Int} {r : Rl} {e : TypeId} {fz : Nat × Nat} (hw : Mem w own ro) (hb : (q, Obj.cells (plC v n r).toArray e fz) ∈ own) : PAt w q v n r :=
  fun i hi => (hw.cell_own hb i).trans (by rw [List.getElem?_toArray]; exact List.getElem?_eq_getElem hi)
theorem PAt.later {w w' : World} {q : Nat} {v : Value} {n : Int} {r : Rl} (h : PAt w q v n r) (hl : Later w w') : PAt w' q v n r := fun i hi => (hl.cell (p := ⟨q, i, none⟩) (cell_lt (h i hi))).trans (h i hi)
end Go.PK
