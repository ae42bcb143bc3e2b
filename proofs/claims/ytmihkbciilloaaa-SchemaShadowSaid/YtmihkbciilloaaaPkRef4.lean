/- Of the proofs of Ytmihkbciilloaaa; see NOTES.md. -/
import Derived.Test.YtmihkbciilloaaaPkMore
namespace Go.PK
open Go Go.RowKit
set_option linter.unusedVariables false
def kindOf : List Pb → Int | [] => 0 | p :: _ => p.kind
/-- The first index from m on. -/
def fidxFrom {α : Type} (p : α → Bool) (xs : List α) (m : Nat) : Int := match (xs.drop m).findIdx? p with | some i => ((m + i : Nat) : Int) | none => -1
theorem fidxFrom_end {α : Type} {p : α → Bool} {xs : List α} : fidxFrom p xs xs.length = -1 := by simp [fidxFrom]
theorem fidxFrom_zero {α : Type} {p : α → Bool} {xs : List α} : fidxFrom p xs 0 = fidx p xs := by
  unfold fidxFrom fidx
  rw [List.drop_zero]
  cases xs.findIdx? p <;> simp
theorem fidxFrom_yes {α : Type} {p : α → Bool} {xs : List α} {m : Nat} (h : m < xs.length) (hp : p xs[m] = true) : fidxFrom p xs m = (m : Nat) := by
  unfold fidxFrom
  rw [List.drop_eq_getElem_cons h, List.findIdx?_cons, hp]
  simp
theorem fidxFrom_no {α : Type} {p : α → Bool} {xs : List α} {m : Nat} (h : m < xs.length) (hp : p xs[m] = false) : fidxFrom p xs m = fidxFrom p xs (m + 1) := by
  unfold fidxFrom
  rw [List.drop_eq_getElem_cons h, List.findIdx?_cons, hp]
  cases hf : (xs.drop (m + 1)).findIdx? p with
  | none => simp
  | some i => simp; omega
theorem ctl_eq (t : ByteArray) : ctl t = (decide (2 ≤ t.size) && decide (byteAt t 0 = 48) && decide (byteAt t 1 = 48)) := by
  unfold ctl pre
  have hsz : (ByteArray.mk #[48, 48]).size = 2 := rfl
  by_cases h : 2 ≤ t.size
  · rw [hsz, Bool.eq_iff_iff]
    simp only [h, true_and, decide_eq_true_eq, Bool.and_eq_true, decide_true]
    have e0 : byteAt (t.extract 0 2) 0 = byteAt t 0 := by rw [byteAt_extract (by omega) h]
    have e1 : byteAt (t.extract 0 2) 1 = byteAt t 1 := by rw [byteAt_extract (by omega) h]
    constructor
    · intro he
      rw [he] at e0 e1
      exact ⟨e0.symm, e1.symm⟩
    · rintro ⟨h0, h1⟩
      rw [h0] at e0
      rw [h1] at e1
      have hs2 : (t.extract 0 2).size = 2 := by rw [ByteArray.size_extract]; omega
      apply ByteArray.ext
      apply Array.ext
      · exact hs2
      · intro i hi1 hi2
        have hi : i < 2 := hi2
        have hi3 : i < (t.extract 0 2).size := hi1
        have key : (t.extract 0 2).data[i] = byteAt (t.extract 0 2) i := by rw [byteAt_eq hi3]; rfl
        rw [key]
        match i, hi with
        | 0, _ => rw [e0]; rfl
        | 1, _ => rw [e1]; rfl
  · have : ¬ (2 ≤ t.size) := h
    rw [hsz]; simp [h]
theorem u8_48 (c : UInt8) : (((c.toNat : Nat) : Int) = 48) ↔ c = 48 := by
  constructor
  · intro h
    have h2 : c.toNat = 48 := by omega
    exact UInt8.toNat_inj.1 h2
  · rintro rfl; rfl
theorem ctl_dec (t : ByteArray) : (decide (2 ≤ (t.size : Int)) && decide (((byteAt t 0).toNat : Int) = 48) && decide (((byteAt t 1).toNat : Int) = 48)) = ctl t := by
  have h2 : (2 ≤ (t.size : Int)) ↔ 2 ≤ t.size := by omega
  rw [ctl_eq, decide_eq_decide.2 h2, decide_eq_decide.2 (u8_48 _), decide_eq_decide.2 (u8_48 _)]
theorem shp_dec (f : Fl) : (ctl f.tag && (decide (f.ind ≠ ⟨#[]⟩) || decide (0 < (f.subs.length : Int))) || !ctl f.tag && (decide (f.data ≠ ⟨#[]⟩) || decide ((f.ind.size : Int) ≠ 2) || decide ((f.subs.length : Int) = 0))) = !shp f := by
  have hl : ∀ l : List Sb, (l = []) = (l.length = 0) := fun l => by rw [List.length_eq_zero_iff]
  unfold shp
  rw [Bool.eq_iff_iff]
  cases hc : ctl f.tag with
  | true =>
    simp only [Bool.true_and, Bool.not_true, Bool.false_and, Bool.or_false, Bool.or_eq_true, if_true, Bool.not_eq_true', decide_eq_true_eq, decide_eq_false_iff_not, ne_eq, empty_iff, hl]
    omega
  | false =>
    simp only [Bool.true_and, Bool.not_false, Bool.false_and, Bool.false_or, Bool.or_eq_true, Bool.false_eq_true, if_false, Bool.not_eq_true', decide_eq_true_eq, decide_eq_false_iff_not, ne_eq, empty_iff, hl]
    omega
theorem fidxFrom_0 {α : Type} {p : α → Bool} {xs : List α} {i : Nat} (h : xs.findIdx? p = some i) : fidx p xs = (i : Nat) := by unfold fidx; rw [h]
/-- The four tests as the reference asks them. -/
theorem tst0_yes {r : Rl} {fs : List Fl} {f : Fl} {n k : Nat} (ho : r.once = true) (hk : k < n) (hl : k < fs.length) (h : fs[k].tag = f.tag) : tst r fs f n 0 = true := by
  have : (fs.take n).any (fun g => decide (g.tag = f.tag)) = true := by
    rw [List.any_eq_true]
    exact ⟨fs[k], by rw [List.mem_take_iff_getElem]; exact ⟨k, by omega, rfl⟩, by simp [h]⟩
  simp [tst, td, tfail, ho, this]
theorem tst0_no {r : Rl} {fs : List Fl} {f : Fl} {n : Nat} (h : r.once = true → ∀ j (hj : j < fs.length), j < n → fs[j].tag ≠ f.tag) : tst r fs f n 0 = false := by
  have : r.once = true → (fs.take n).any (fun g => decide (g.tag = f.tag)) = false := by
    intro ho
    rw [List.any_eq_false]
    intro g hg
    obtain ⟨i, hi, rfl⟩ := List.mem_take_iff_getElem.1 hg
    simpa using h ho i (by omega) (by omega)
  cases ho : r.once with
  | false => simp [tst, td, tfail, ho]
  | true => simp [tst, td, tfail, ho, this ho]
theorem tst_ctl {r : Rl} {fs : List Fl} {f : Fl} {n : Nat} (hc : ctl f.tag = true) (h0 : tst r fs f n 0 = false) : ∀ i, i < 4 → tst r fs f n i = false
  | 0, _ => h0
  | 1, _ | 2, _ | 3, _ => by simp [tst, td, hc]
theorem tst_eq {r : Rl} {fs : List Fl} {f : Fl} {n j : Nat} (hj : 0 < j) (hc : ctl f.tag = false) : tst r fs f n j = tfail r fs f n j := by
  have : td j = true := by unfold td; split <;> first | omega | rfl
  simp [tst, hc, this]
theorem any_cd {l : List Sb} {p : UInt8 → Bool} {k : Nat} (hk : k < l.length) (h : p (cdAt l k) = true) : l.any (fun s => p s.code) = true := by
  rw [List.any_eq_true]
  exact ⟨l[k], List.getElem_mem hk, by rw [← cdAt_eq hk]; exact h⟩
theorem any_cd_no {l : List Sb} {p : UInt8 → Bool} (h : ∀ j, j < l.length → p (cdAt l j) = false) : l.any (fun s => p s.code) = false := by
  rw [List.any_eq_false]
  intro s hs
  obtain ⟨i, hi, rfl⟩ := List.getElem_of_mem hs
  rw [← cdAt_eq hi, h i hi]; exact Bool.false_ne_true
theorem lt4 {P : Nat → Prop} (h0 : P 0) (h1 : P 1) (h2 : P 2) (h3 : P 3) : ∀ i, i < 4 → P i
  | 0, _ => h0 | 1, _ => h1 | 2, _ => h2 | 3, _ => h3
end Go.PK
