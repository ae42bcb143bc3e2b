/- Of the proofs of Ytmihkbciilloaaa; see NOTES.md. -/
import Derived.Test.YtmihkbciilloaaaPkRead
import Derived.Test.YtmihkbciilloaaaPkStd
namespace Go.PK
open Go Go.RowKit
set_option linter.unusedVariables false
theorem flat_get' {m : Nat} : ∀ (css : List (List Value)) (hf : ∀ x ∈ css, x.length = m) (j : Nat) (hj : j < css.length) (i : Nat), i < m → css.flatten[j * m + i]? = (css[j])[i]?
  | [], _, j, hj, _, _ => by simp at hj
  | x :: xs, hf, 0, _, i, hi => by
    rw [List.flatten_cons, List.getElem?_append_left (by rw [hf x (by simp)]; omega)]; simp
  | x :: xs, hf, j + 1, hj, i, hi => by
    rw [List.flatten_cons, List.getElem?_append_right (by rw [hf x (by simp), Nat.add_mul]; omega), hf x (by simp), show (j + 1) * m + i - m = j * m + i by rw [Nat.add_mul]; omega]
    exact flat_get' xs (fun y hy => hf y (by simp [hy])) j (by simpa using hj) i hi
/-- A row of the cells css that reads as xs. -/
def Reads {α : Type} (T : Ty α) (D : Nat → Prop) (w : World) : List (List Value) → List α → Prop
  | [], [] => True
  | c :: cs, x :: xs => T.rd D w c x ∧ Reads T D w cs xs
  | _, _ => False
theorem Reads.at {α : Type} {T : Ty α} {D : Nat → Prop} {w : World} : ∀ {css : List (List Value)} {xs : List α}, Reads T D w css xs → css.length = xs.length ∧ ∀ j (h1 : j < css.length) (h2 : j < xs.length), T.rd D w css[j] xs[j]
  | [], [], _ => ⟨rfl, fun j h => by simp at h⟩
  | c :: cs, x :: xs, ⟨h, hr⟩ => by
    obtain ⟨e1, e2⟩ := hr.at
    refine ⟨by simp [e1], fun j h1 h2 => ?_⟩
    cases j with
    | zero => exact h
    | succ j => exact e2 j (by simpa using h1) (by simpa using h2)
theorem lits_rd {α : Type} {T : Ty α} {D : Nat → Prop} {w : World} {b n : Nat} {e : TypeId} {cs : List Value} {fz : Nat × Nat} (css : List (List Value)) {xs : List α} (hb : w.heap[b]? = some (.cells cs.toArray e fz))
    (hcs : cs = css.flatten) (hn : n = xs.length) (hmx : xs.length ≤ 9223372036854775807) (hD : D b) (hrd : Reads T D w css xs) : sliceRd T D w (.slice (some ⟨b, 0, none⟩) n n) xs := by
  subst hn
  obtain ⟨e1, e2⟩ := hrd.at
  have hlen : ∀ x ∈ css, x.length = T.size := fun x hx => by
    obtain ⟨j, hj, rfl⟩ := List.mem_iff_getElem.1 hx
    exact T.len (e2 j hj (by omega))
  refine ⟨_, _, rfl, Nat.le_refl _, hmx, fun h0 => ⟨b, 0, rfl, hD, heap_lt hb, fun j hj => ⟨css[j]'(by omega), fun i hi => ?_, e2 j (by omega) hj⟩⟩⟩
  have hi' : i < T.size := by rw [hlen _ (List.getElem_mem _)] at hi; exact hi
  have h1 := flat_get' css hlen j (by omega) i hi'
  rw [Nat.zero_add, cell_of_row w b _ cs.toArray e fz hb, List.getElem?_toArray, hcs, h1]
  exact List.getElem?_eq_getElem hi
theorem ro_heap {w : World} {own : List (Nat × Obj)} {ro : List Snap} {s : Snap} {b : Nat} {o : Obj} (hw : Mem w own ro) (hs : s ∈ ro) (hd : s.2 b) (h : s.1.heap[b]? = some o) : w.heap[b]? = some o :=
  (hw.ro_at s hs b hd (heap_lt h)).trans h

/-! ## A form of 'chk' that can be decided -/
def dupB (single : ByteArray) (l : List Sb) : Bool := (List.range l.length).any fun j => hasB single (cdAt l j) && (List.range j).any fun i => decide (cdAt l i = cdAt l j)
theorem dup_eq (single : ByteArray) (l : List Sb) : dup single l = dupB single l := by
  cases h : dupB single l with
  | true =>
    unfold dupB at h
    simp only [List.any_eq_true, List.mem_range, Bool.and_eq_true, decide_eq_true_eq] at h
    obtain ⟨j, hj, h1, i, hi, h2⟩ := h
    exact dup_yes hj ⟨⟨i, hi, h2⟩, h1⟩
  | false =>
    refine dup_no fun j hj hd => ?_
    obtain ⟨⟨i, hi, h2⟩, h1⟩ := hd
    have : dupB single l = true := by
      unfold dupB
      simp only [List.any_eq_true, List.mem_range, Bool.and_eq_true, decide_eq_true_eq]
      exact ⟨j, hj, h1, i, hi, h2⟩
    rw [h] at this
    cases this
def tfailB (r : Rl) (fs : List Fl) (f : Fl) (n : Nat) : Nat → Bool
  | 0 => r.once && (fs.take n).any (fun g => decide (g.tag = f.tag))
  | 1 => !hasB r.i0 (byteAt f.ind 0) || !hasB r.i1 (byteAt f.ind 1)
  | 2 => f.subs.any (fun s => !hasB r.codes s.code)
  | _ => dupB r.single f.subs
theorem tfail_eq (r : Rl) (fs : List Fl) (f : Fl) (n j : Nat) : tfail r fs f n j = tfailB r fs f n j := by
  match j with
  | 0 | 1 | 2 => rfl
  | _ + 3 => exact dup_eq _ _
def tpbB (r : Rl) (fs : List Fl) (f : Fl) (n : Nat) : List Pb := match (List.range 4).find? (fun j => (!td j || !ctl f.tag) && tfailB r fs f n j) with | none => [] | some j => [⟨n, tk j⟩]
theorem tpb_eq (r : Rl) (fs : List Fl) (f : Fl) (n : Nat) : tpb r fs f n = tpbB r fs f n := by
  unfold tpb tpbB
  have : tst r fs f n = fun j => (!td j || !ctl f.tag) && tfailB r fs f n j := funext fun j => by unfold tst; rw [tfail_eq]
  rw [this]
  generalize List.find? _ _ = o
  cases o <;> rfl
def fpbB (rs : List Rl) (fs : List Fl) (f : Fl) (n : Nat) : List Pb :=
  if shp f = true then match rs.findIdx? (fun r => mtc r.tag f.tag) with
    | none => [⟨n, 20⟩]
    | some i => match rs[i]? with | none => [] | some r => tpbB r fs f n
  else [⟨n, 14⟩]
theorem fpb_eq (rs : List Rl) (fs : List Fl) (f : Fl) (n : Nat) : fpb rs fs f n = fpbB rs fs f n := by
  unfold fpb fpbB; simp only [tpb_eq]
  congr 1
def chkFB (rs : List Rl) (fs : List Fl) : Nat → List Pb
  | 0 => []
  | k + 1 => chkFB rs fs k ++ (match fs[k]? with | none => [] | some f => fpbB rs fs f k)
theorem chkF_eq (rs : List Rl) (fs : List Fl) : ∀ k, chkF rs fs k = chkFB rs fs k
  | 0 => rfl
  | k + 1 => by simp only [chkF, chkFB, chkF_eq rs fs k, fpb_eq]; congr 1
def chkMB (rs : List Rl) (fs : List Fl) : Nat → List Pb
  | 0 => chkFB rs fs fs.length
  | k + 1 => chkMB rs fs k ++ (match rs[k]? with | none => [] | some r => mpb fs r)
theorem chkM_eq (rs : List Rl) (fs : List Fl) : ∀ k, chkM rs fs k = chkMB rs fs k
  | 0 => chkF_eq rs fs _
  | k + 1 => by
    simp only [chkM, chkMB, chkM_eq rs fs k]
    congr 1
def chkB (rs : List Rl) (fs : List Fl) : List Pb := chkMB rs fs rs.length
theorem chk_eq (rs : List Rl) (fs : List Fl) : chk rs fs = chkB rs fs := chkM_eq rs fs _

/-! ## The examples -/
def fId : Fl := ⟨⟨#[48, 48, 49]⟩, ⟨#[]⟩, ⟨#[55]⟩, []⟩
def sEmma : Sb := ⟨97, ⟨#[69, 109, 109, 97]⟩⟩
def fEmma : Fl := ⟨⟨#[50, 52, 53]⟩, ⟨#[49, 48]⟩, ⟨#[]⟩, [sEmma]⟩
def fEmma2 : Fl := ⟨⟨#[50, 52, 53]⟩, ⟨#[49, 32]⟩, ⟨#[]⟩, [sEmma]⟩
def fDouble : Fl := ⟨⟨#[50, 52, 53]⟩, ⟨#[49, 48]⟩, ⟨#[]⟩, [⟨97, ⟨#[120]⟩⟩, ⟨97, ⟨#[121]⟩⟩]⟩
def f999 : Fl := ⟨⟨#[57, 57, 57]⟩, ⟨#[32, 55]⟩, ⟨#[]⟩, [⟨113, ⟨#[122]⟩⟩]⟩
def f1a2 : Fl := ⟨⟨#[49, 97, 50]⟩, ⟨#[32, 32]⟩, ⟨#[]⟩, [⟨97, ⟨#[98]⟩⟩]⟩
theorem exA : chk std [fId, fEmma] = [] := by rw [chk_eq]; decide +kernel
theorem exB : chk std [fEmma, fEmma2] = [⟨1, 22⟩, ⟨-1, 21⟩] := by rw [chk_eq]; decide +kernel
theorem exC : chk std [fId, fDouble, f999, f1a2] = [⟨1, 22⟩, ⟨3, 20⟩] := by rw [chk_eq]; decide +kernel
theorem exD : chk std [] = [⟨-1, 21⟩, ⟨-1, 21⟩] := by rw [chk_eq]; decide +kernel
end Go.PK
