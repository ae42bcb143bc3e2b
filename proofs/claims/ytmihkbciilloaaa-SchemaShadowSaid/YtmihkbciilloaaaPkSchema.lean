/- Of the proofs of Ytmihkbciilloaaa; see NOTES.md. -/
import Derived.Test.YtmihkbciilloaaaPkLib
import Derived.Test.YtmihkbciilloaaaPkApp
import Derived.Test.YtmihkbciilloaaaPkMap
import Derived.Test.YtmihkbciilloaaaPkFill
namespace Go.PK
open Go Go.RowKit
set_option linter.unusedVariables false
set_option linter.unusedSimpArgs false

def pbC (x : Pb) : List Value := [.int .i64 x.field, .int .i64 x.kind]
def tf : Nat → Nat | 0 => 41 | 1 => 45 | 2 => 47 | _ => 51
def tk : Nat → Int | 0 => 22 | 1 => 23 | 2 => 24 | _ => 22
def td : Nat → Bool | 0 => false | _ => true
def testL : List Value := [.int .i64 22, .bool false, .func (.func 41) #[] #[], .int .i64 23, .bool true, .func (.func 45) #[] #[], .int .i64 24, .bool true, .func (.func 47) #[] #[], .int .i64 22, .bool true, .func (.func 51) #[] #[]]
theorem testL_at (j : Nat) (hj : j < 4) (i : Nat) (hi : i < 3) : testL[0 + j * 3 + i]? = [Value.int .i64 (tk j), .bool (td j), .func (.func (tf j)) #[] #[]][i]? := by
  match j, hj, i, hi with
  | 0, _, 0, _ | 0, _, 1, _ | 0, _, 2, _ | 1, _, 0, _ | 1, _, 1, _ | 1, _, 2, _ | 2, _, 0, _ | 2, _, 1, _ | 2, _, 2, _ | 3, _, 0, _ | 3, _, 1, _ | 3, _, 2, _ => rfl
/-- Does test j fail? -/
noncomputable def tfail (r : Rl) (fs : List Fl) (f : Fl) (n : Nat) : Nat → Bool
  | 0 => r.once && (fs.take n).any (fun g => decide (g.tag = f.tag))
  | 1 => !hasB r.i0 (byteAt f.ind 0) || !hasB r.i1 (byteAt f.ind 1)
  | 2 => f.subs.any (fun s => !hasB r.codes s.code)
  | _ => dup r.single f.subs
noncomputable def tst (r : Rl) (fs : List Fl) (f : Fl) (n j : Nat) : Bool := (!td j || !ctl f.tag) && tfail r fs f n j
noncomputable def tpb (r : Rl) (fs : List Fl) (f : Fl) (n : Nat) : List Pb := match (List.range 4).find? (tst r fs f n) with | none => [] | some j => [⟨n, tk j⟩]
/-- The problem of field n. -/
noncomputable def fpb (rs : List Rl) (fs : List Fl) (f : Fl) (n : Nat) : List Pb :=
  if shp f = true then match rs.findIdx? (fun r => mtc r.tag f.tag) with
    | none => [⟨n, 20⟩]
    | some i => match rs[i]? with | none => [] | some r => tpb r fs f n
  else [⟨n, 14⟩]
noncomputable def chkF (rs : List Rl) (fs : List Fl) : Nat → List Pb
  | 0 => []
  | k + 1 => chkF rs fs k ++ (match fs[k]? with | none => [] | some f => fpb rs fs f k)
def mpb (fs : List Fl) (r : Rl) : List Pb := if r.must && !fs.any (fun f => mtc r.tag f.tag) then [⟨-1, 21⟩] else []
noncomputable def chkM (rs : List Rl) (fs : List Fl) : Nat → List Pb
  | 0 => chkF rs fs fs.length
  | k + 1 => chkM rs fs k ++ (match rs[k]? with | none => [] | some r => mpb fs r)
/-- What schema.Check returns. -/
noncomputable def chk (rs : List Rl) (fs : List Fl) : List Pb := chkM rs fs rs.length
theorem chkF_succ {rs : List Rl} {fs : List Fl} {k : Nat} (h : k < fs.length) : chkF rs fs (k + 1) = chkF rs fs k ++ fpb rs fs fs[k] k := by simp [chkF, h]
theorem chkM_succ {rs : List Rl} {fs : List Fl} {k : Nat} (h : k < rs.length) : chkM rs fs (k + 1) = chkM rs fs k ++ mpb fs rs[k] := by simp [chkM, h]
theorem fpb_len (rs : List Rl) (fs : List Fl) (f : Fl) (n : Nat) : (fpb rs fs f n).length ≤ 1 := by
  unfold fpb tpb; split
  · split
    · simp
    · split
      · simp
      · split <;> simp
  · simp
theorem mpb_len (fs : List Fl) (r : Rl) : (mpb fs r).length ≤ 1 := by unfold mpb; split <;> simp
theorem chkF_len (rs : List Rl) (fs : List Fl) : ∀ k, (chkF rs fs k).length ≤ k
  | 0 => by simp [chkF]
  | k + 1 => by
    have := chkF_len rs fs k
    simp only [chkF, List.length_append]
    cases h : fs[k]? with
    | none => simp; omega
    | some f => have := fpb_len rs fs f k; simp only; omega
theorem chkM_len (rs : List Rl) (fs : List Fl) : ∀ k, (chkM rs fs k).length ≤ fs.length + k
  | 0 => by have := chkF_len rs fs fs.length; simp only [chkM]; omega
  | k + 1 => by
    have := chkM_len rs fs k
    simp only [chkM, List.length_append]
    cases h : rs[k]? with
    | none => simp; omega
    | some r => have := mpb_len fs r; simp only; omega
theorem row_snoc {r : RowS} {xs : List Pb} {i k : Int} (h : rowOK 2 r (xs.length + 1) (xs.flatMap pbC ++ [.int .i64 i, .int .i64 k])) : rowOK 2 r (xs ++ [(⟨i, k⟩ : Pb)]).length ((xs ++ [(⟨i, k⟩ : Pb)]).flatMap pbC) := by
  rw [List.flatMap_append, List.length_append]; simpa [pbC] using h
theorem row_to {r : RowS} {xs ys : List Pb} (h : rowOK 2 r xs.length (xs.flatMap pbC)) (e : ys = xs) : rowOK 2 r ys.length (ys.flatMap pbC) := e ▸ h

/-- What the map 'there' says once k fields are done, and of the first i rules k+1. -/
def There (rs : List Rl) (fs : List Fl) (k i : Nat) (mf : Value → Option Value) : Prop :=
  ∀ j (hj : j < rs.length), (mf (.int .i64 (j : Nat))).getD (.bool false) = .bool ((fs.take (if j < i then k + 1 else k)).any fun f => mtc rs[j].tag f.tag)
theorem There.init (rs : List Rl) (fs : List Fl) : There rs fs 0 0 (fun _ => none) := fun j hj => by simp
theorem There.next {rs : List Rl} {fs : List Fl} {k i : Nat} {mf : Value → Option Value} (h : There rs fs k i mf) (hi : rs.length ≤ i) : There rs fs (k + 1) 0 mf := fun j hj => by
  rw [h j hj, if_pos (by omega), if_neg (by omega)]
theorem There.step {rs : List Rl} {fs : List Fl} {k i : Nat} {mf : Value → Option Value} {b : Bool} (h : There rs fs k i mf) (hk : k < fs.length) (hi : i < rs.length)
    (hb : b = ((fs.take k).any (fun f => mtc rs[i].tag f.tag) || mtc rs[i].tag fs[k].tag)) : There rs fs k (i + 1) (fupd mf (.int .i64 (i : Nat)) (.bool b)) := fun j hj => by
  by_cases hji : j = i
  · subst hji
    rw [fupd_self, if_pos (by omega), hb, List.take_succ_eq_append_getElem hk, List.any_append]
    simp
  · have hne : Value.int .i64 (j : Nat) ≠ Value.int .i64 (i : Nat) := fun e => by
      injection e with _ e
      omega
    rw [fupd_ne hne, h j hj]
    by_cases h1 : j < i
    · rw [if_pos h1, if_pos (by omega)]
    · rw [if_neg h1, if_neg (by omega)]
theorem wf_i64 {i : Nat} (h : i ≤ 9223372036854775807) : (Lit.int .i64 (i : Nat)).wf = true := by
  simp only [Lit.wf, Bool.and_eq_true, decide_eq_true_eq]
  have h1 : IntKind.i64.min = -9223372036854775808 := by decide
  have h2 : IntKind.i64.max = 9223372036854775807 := by decide
  omega
theorem fidx_some {α : Type} {p : α → Bool} {xs : List α} (h : 0 ≤ fidx p xs) : ∃ i, ∃ hi : i < xs.length, fidx p xs = (i : Nat) ∧ xs.findIdx? p = some i := by
  unfold fidx at h ⊢
  cases hf : xs.findIdx? p with
  | none => simp [hf] at h
  | some i =>
    have := (List.findIdx?_eq_some_iff_getElem.1 hf).1
    exact ⟨i, this, rfl, rfl⟩
theorem fidx_neg {α : Type} {p : α → Bool} {xs : List α} (h : fidx p xs < 0) : xs.findIdx? p = none := by
  unfold fidx at h
  cases hf : xs.findIdx? p with
  | none => rfl
  | some i => simp [hf] at h; omega
theorem fpb_bad {rs : List Rl} {fs : List Fl} {f : Fl} {n : Nat} (h : shp f = false) : fpb rs fs f n = [⟨n, 14⟩] := by unfold fpb; rw [h]; rfl
theorem fpb_tag {rs : List Rl} {fs : List Fl} {f : Fl} {n : Nat} (h : shp f = true) (hf : fidx (fun r => mtc r.tag f.tag) rs < 0) : fpb rs fs f n = [⟨n, 20⟩] := by
  unfold fpb; rw [if_pos h, fidx_neg hf]
theorem fpb_at {rs : List Rl} {fs : List Fl} {f : Fl} {n i : Nat} (h : shp f = true) (hi : i < rs.length) (hf : rs.findIdx? (fun r => mtc r.tag f.tag) = some i) : fpb rs fs f n = tpb rs[i] fs f n := by
  unfold fpb; rw [if_pos h, hf]; simp [hi]
theorem tpb_at {r : Rl} {fs : List Fl} {f : Fl} {n j : Nat} (hj : j < 4) (ht : tst r fs f n j = true) (hno : ∀ i, i < j → tst r fs f n i = false) : tpb r fs f n = [⟨n, tk j⟩] := by
  unfold tpb
  have : (List.range 4).find? (tst r fs f n) = some j := by
    rw [List.find?_range_eq_some]
    exact ⟨ht, by simpa using hj, fun i hi => by simp [hno i hi]⟩
  rw [this]
theorem tpb_none {r : Rl} {fs : List Fl} {f : Fl} {n : Nat} (hno : ∀ i, i < 4 → tst r fs f n i = false) : tpb r fs f n = [] := by
  unfold tpb
  have : (List.range 4).find? (tst r fs f n) = none := by
    rw [List.find?_eq_none]
    intro i hi
    simp [hno i (by simpa using hi)]
  rw [this]
theorem There.at {rs : List Rl} {fs : List Fl} {k i : Nat} {mf : Value → Option Value} (h : There rs fs k i mf) (hi : i < rs.length) : (mf (.int .i64 (i : Nat))).getD (.bool false) = .bool ((fs.take k).any fun f => mtc rs[i].tag f.tag) := by
  rw [h i hi, if_neg (Nat.lt_irrefl i)]
theorem There.last {rs : List Rl} {fs : List Fl} {mf : Value → Option Value} (h : There rs fs fs.length 0 mf) {i : Nat} (hi : i < rs.length) : (mf (.int .i64 (i : Nat))).getD (.bool false) = .bool (fs.any fun f => mtc rs[i].tag f.tag) := by
  rw [h i hi, if_neg (Nat.not_lt_zero i), List.take_length]
end Go.PK
