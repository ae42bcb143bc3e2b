/- Of the proofs of YtafannhhkfpbeaaGreatDoor: PkTop PkSer4 PkSer5 PkRef4 PkNum PkInv PkInv2 PkPay PkPayT PkSer6 PkLibs PkFull PkEdi7 PkText PkPayR PkPayS PkPayL PkFull2 PkCopy PkTree PkTree2 PkTree3 PkSer7 PkSer8 PkRound PkSer9 PkSerW PkSan PkTurnG PkBent2 PkIss PkLaw25 PkSerR PkBulk PkOrdT, put together. -/
import Derived.Test.YtafannhhkfpbeaaGreatDoorM1
import Derived.Lib.AtoiAll
import Derived.Lib.ItoaNum
import Derived.Lib.SplitLaws
import Derived.Lib.IndexBytes
import Derived.Lib.IndexMore
import Derived.Lib.AtoiAllCases
import Derived.Sort.Grow
import Derived.Lib.SlicesCompact
import Derived.ArgAppend
import Derived.Laws.ResultCell
import Derived.Lib.AppendZerosOnto
import Derived.Laws.CopyRow
import Derived.Lib.Overlaps
import Derived.Laws.Externs
import Derived.OrdersIn
import Derived.RangeFuncCalls
/- Of the proofs of YtafannhhkfpbeaaGreatDoor; see NOTES.md. -/
/-! Small arrays among the arguments of a law. -/
namespace Go.PK
open Go Go.RowKit
set_option linter.unusedVariables false
section
variable {P : Program} {H : Type} {enc : TypeId × Value → H} {W : World} {base b0 : Nat} {sp : Nat → Bool} {held : Bool} {r : Reach} {t e : TypeId} {v : Value} {d : DataW H} {ps : List MemPlace}
end
end Go.PK

/- Of the proofs of YtafannhhkfpbeaaGreatDoor; see NOTES.md. -/
/-! The numbers of an issue, from the last one on; issues in memory. -/
namespace Go.PK
open Go Go.RowKit
set_option linter.unusedVariables false
def numL (p : Pat) (r : Int) (i : Nat) : List Int := List.replicate (i + 1) 0 ++ (lowP (p.lv.tail.drop i) r).1
def restL (p : Pat) (r : Int) (i : Nat) : Int := (lowP (p.lv.tail.drop i) r).2
theorem numL_start {p : Pat} (h : rightQ p) (r : Int) : numL p r (p.lv.length - 1) = List.replicate p.lv.length 0 ∧ restL p r (p.lv.length - 1) = r := by
  have h1 := h.1.1
  unfold numL restL
  rw [List.drop_eq_nil_of_le (by simp), Nat.sub_add_cancel h1]
  exact ⟨by simp [lowP], rfl⟩
theorem restL_step {p : Pat} {r : Int} {i : Nat} (h : i + 1 < p.lv.length) : restL p r i = restL p r (i + 1) / p.lv.getD (i + 1) 0 := by
  unfold restL; rw [drop_getD (show i < p.lv.tail.length by simp; omega), getD_tail]; rfl
theorem numL_step {p : Pat} {r : Int} {i : Nat} (h : i + 1 < p.lv.length) : (numL p r (i + 1)).set (i + 1) (restL p r (i + 1) % p.lv.getD (i + 1) 0 + 1) = numL p r i := by
  unfold numL restL
  rw [drop_getD (show i < p.lv.tail.length by simp; omega), getD_tail, List.replicate_succ' (n := i + 1), List.append_assoc, List.set_append_right _ _ (by simp)]
  simp [lowP]
theorem numL_end {p : Pat} (h : rightQ p) (k : Int) : (numL p (baseP p + k) 0).set 0 (p.st.getD 0 0 + restL p (baseP p + k) 0) = numsP p k := by
  unfold numL restL numsP lowK
  rw [List.drop_zero]
  show (p.st.getD 0 0 + _) :: _ = _
  congr 2
  cases p.st <;> simp
theorem numL_len {p : Pat} {r : Int} {i : Nat} (h : i < p.lv.length) : (numL p r i).length = p.lv.length := by
  unfold numL; rw [List.length_append, List.length_replicate, low_len, List.length_drop, List.length_tail]; omega
theorem low2_rng : ∀ (ls : List Int) (r : Int), (∀ l ∈ ls, 1 ≤ l) → 0 ≤ r → 0 ≤ (lowP ls r).2 ∧ (lowP ls r).2 ≤ r
  | [], r, _, h => ⟨h, Int.le_refl _⟩
  | l :: ls, r, hl, h => by
    obtain ⟨h1, h2⟩ := low2_rng ls r (fun x hx => hl x (List.mem_cons_of_mem _ hx)) h
    have := hl l (by simp)
    show 0 ≤ (lowP ls r).2 / l ∧ (lowP ls r).2 / l ≤ r
    exact ⟨Int.ediv_nonneg h1 (by omega), Int.le_trans (Int.ediv_le_self _ h1) h2⟩
theorem rightQ.one {p : Pat} (h : rightQ p) : ∀ l ∈ p.lv.tail, 1 ≤ l := fun l hl => by
  obtain ⟨j, hj, rfl⟩ := List.getElem_of_mem hl
  have hj' : j + 1 < p.lv.length := by simp at hj; omega
  have := (h.at (j := j + 1) (by omega) hj').1
  rw [← getD_lt hj, getD_tail]; exact this
theorem restL_rng {p : Pat} (h : rightQ p) {r : Int} (hr : 0 ≤ r) (i : Nat) : 0 ≤ restL p r i ∧ restL p r i ≤ r := low2_rng _ r (fun l hl => h.one l (List.mem_of_mem_drop hl)) hr
theorem nums_in {p : Pat} (h : rightQ p) {k : Int} (h0 : 0 ≤ k) (hk : k ≤ 2000000) : ∀ d ∈ numsP p k, 0 ≤ d ∧ d ≤ 3000000 := fun d hd => by
  have hb := low_carry h h0
  rcases List.mem_cons.1 hd with rfl | hd
  · have h5 := h.1.2.2.2.2.1
    have h6 := h.1.2.2.2.2.2
    have e : p.st.headD 0 = p.st.getD 0 0 := by cases p.st <;> simp
    rw [e]; omega
  · obtain ⟨j, hj, rfl⟩ := List.getElem_of_mem hd
    have hj2 : j < p.lv.tail.length := by have := low_len p.lv.tail (baseP p + k); unfold lowK at hj; omega
    obtain ⟨l1, l2⟩ := low_in p.lv.tail (baseP p + k) h.one j hj hj2
    have hj3 : j + 1 < p.lv.length := by simp at hj2; omega
    have := h.at (j := j + 1) (by omega) hj3
    have e : p.lv.tail[j] = p.lv.getD (j + 1) 0 := by rw [← getD_lt hj2, getD_tail]
    rw [e] at l2
    show 0 ≤ (lowP p.lv.tail (baseP p + k)).1[j] ∧ (lowP p.lv.tail (baseP p + k)).1[j] ≤ 3000000
    omega
theorem nums_in64 {p : Pat} (h : rightQ p) {k : Int} (h0 : 0 ≤ k) (hk : k ≤ 2000000) : ∀ d ∈ numsP p k, in64 d := fun d hd => by
  have := nums_in h h0 hk d hd; unfold in64; omega
theorem day_rng {p : Pat} (h : rightQ p) {k : Int} (h0 : 0 ≤ k) (hk : k ≤ 2000000) : 0 ≤ k * p.days ∧ k * p.days ≤ 20000000000 := by
  have := h.2.2.1
  exact ⟨Int.mul_nonneg h0 (by omega), Int.mul_le_mul hk this.2 (by omega) (by decide)⟩
/-- An issue: its numbers and its day. -/
structure Iss where
  nums : List Int
  day : Int
deriving DecidableEq
def issP (p : Pat) (k : Int) : Iss := ⟨numsP p k, p.first + k * p.days⟩
def predP (p : Pat) (n : Nat) : List Iss := (List.range n).map fun k => issP p (k : Nat)
theorem predP_succ (p : Pat) (n : Nat) : predP p (n + 1) = predP p n ++ [issP p (n : Nat)] := by unfold predP; rw [List.range_succ, List.map_append]; rfl
theorem predP_len (p : Pat) (n : Nat) : (predP p n).length = n := by simp [predP]
def tyIss : Ty Iss where
  size := 2
  rd := fun D w cs x => ∃ v, cs = [v, .int .i64 x.day] ∧ sliceRd tyI D w v x.nums ∧ in64 x.day
  len := fun ⟨v, h, _⟩ => by rw [h]; rfl
  keep := fun ⟨v, h, h1, h2⟩ k => ⟨v, h, h1.keep k, h2⟩
theorem iss_at {D : Nat → Prop} {w : World} {A : Option Addr} {l c : Nat} {xs : List Iss} (h : sliceRd tyIss D w (.slice A l c) xs) {k : Nat} (hk : k < xs.length) :
    ∃ b off v, A = some ⟨b, off, none⟩ ∧ D b ∧ w.cell? ⟨b, off + k * 2, none⟩ = some v ∧ w.cell? ⟨b, off + k * 2 + 1, none⟩ = some (.int .i64 xs[k].day) ∧ sliceRd tyI D w v xs[k].nums ∧ in64 xs[k].day := by
  obtain ⟨A', c', e, h1, h2, h3⟩ := h
  injection e with e1 e2 e3
  obtain ⟨b, off, hA, hD, hb, hc⟩ := h3 (by omega)
  obtain ⟨cs, hcs, v, rfl, h4, h5⟩ := hc k hk
  have g0 := hcs 0 (by simp)
  have g1 := hcs 1 (by simp)
  exact ⟨b, off, v, e1.trans hA, hD, g0, g1, h4, h5⟩
theorem put_int {cs : List Int} {k : Nat} {x : Int} (h : k < cs.length) : List.take (0 + k * 1) (cs.map (Value.int .i64)) ++ (Value.int .i64 x).cells.toList ++ List.drop (0 + k * 1 + 1) (cs.map (Value.int .i64)) = (cs.set k x).map (Value.int .i64) := by
  rw [Nat.mul_one, Nat.zero_add]
  show List.take k (cs.map (Value.int .i64)) ++ [Value.int .i64 x] ++ List.drop (k + 1) (cs.map (Value.int .i64)) = _
  rw [List.map_set, List.set_eq_take_append_cons_drop, if_pos (by simpa using h)]; simp
/-- The index, level by level. -/
def valTo (p : Pat) (ns : List Int) : Nat → Int
  | 0 => ns.getD 0 0 - p.st.getD 0 0
  | k + 1 => valTo p ns k * p.lv.getD (k + 1) 0 + ns.getD (k + 1) 0 - 1
theorem val_to {p : Pat} {ns : List Int} (h : ns.length = p.lv.length) : ∀ k, k ≤ p.lv.tail.length → valL (ns.tail.drop k) (p.lv.tail.drop k) (valTo p ns k) = valL ns.tail p.lv.tail (valTo p ns 0)
  | 0, _ => rfl
  | k + 1, hk => by
    have hl : ns.tail.length = p.lv.tail.length := by simp [h]
    rw [← val_to h k (by omega), drop_getD (show k < ns.tail.length by omega), drop_getD (show k < p.lv.tail.length by omega), getD_tail, getD_tail]
    rfl
theorem val_all {p : Pat} {ns : List Int} (h : ns.length = p.lv.length) : valTo p ns (p.lv.length - 1) - baseP p = numK p ns := by
  unfold numK
  show _ = valL ns.tail p.lv.tail (valTo p ns 0) - _
  rw [← val_to h (p.lv.length - 1) (by simp), List.drop_eq_nil_of_le (by simp; omega), List.drop_eq_nil_of_le (by simp)]
  rfl
theorem valTo_rng {p : Pat} {ns : List Int} (h : rightQ p) (h0 : 0 ≤ valTo p ns 0 ∧ valTo p ns 0 ≤ 100000) : ∀ k, k < p.lv.length → (∀ j, j ≤ k → 1 ≤ j → 1 ≤ ns.getD j 0 ∧ ns.getD j 0 ≤ p.lv.getD j 0) → 0 ≤ valTo p ns k ∧ valTo p ns k < 100001 * 1000 ^ k
  | 0, _, _ => by omega
  | k + 1, hk, hn => by
    obtain ⟨i1, i2⟩ := valTo_rng h h0 k (by omega) (fun j h1 h2 => hn j (by omega) h2)
    obtain ⟨a1, a2, a3, a4⟩ := h.at (j := k + 1) (by omega) hk
    obtain ⟨b1, b2⟩ := hn (k + 1) (by omega) (by omega)
    have m1 : 0 ≤ valTo p ns k * p.lv.getD (k + 1) 0 := Int.mul_nonneg i1 (by omega)
    have m2 : valTo p ns k * p.lv.getD (k + 1) 0 ≤ (100001 * 1000 ^ k - 1) * p.lv.getD (k + 1) 0 := Int.mul_le_mul_of_nonneg_right (by omega) (by omega)
    have m3 : (100001 * 1000 ^ k - 1 + 1 : Int) * p.lv.getD (k + 1) 0 ≤ 100001 * 1000 ^ k * 1000 := by
      rw [Int.sub_add_cancel]; exact Int.mul_le_mul_of_nonneg_left a2 (Int.mul_nonneg (by decide) (Int.pow_nonneg (by decide)))
    rw [Int.add_mul, Int.one_mul] at m3
    show 0 ≤ valTo p ns k * p.lv.getD (k + 1) 0 + ns.getD (k + 1) 0 - 1 ∧ valTo p ns k * p.lv.getD (k + 1) 0 + ns.getD (k + 1) 0 - 1 < 100001 * (1000 ^ k * 1000)
    rw [← Int.mul_assoc]
    omega
theorem valTo_le {p : Pat} {ns : List Int} (h : rightQ p) (h0 : 0 ≤ valTo p ns 0 ∧ valTo p ns 0 ≤ 100000) {k : Nat} (hk : k < p.lv.length) (hn : ∀ j, j ≤ k → 1 ≤ j → 1 ≤ ns.getD j 0 ∧ ns.getD j 0 ≤ p.lv.getD j 0) : 0 ≤ valTo p ns k ∧ valTo p ns k < 100001000000000 := by
  have h4 := h.1.2.1
  have := valTo_rng h h0 k hk hn
  have h3 := pow_le3 (k := k) (by omega)
  omega
theorem numP_some {p : Pat} {ns : List Int} (h : numC p ns) : (numP p ns).getD 0 = numK p ns ∧ (numP p ns).isSome = true := by unfold numP; rw [if_pos h]; exact ⟨rfl, rfl⟩
theorem numP_none {p : Pat} {ns : List Int} (h : ¬numC p ns) : (numP p ns).getD 0 = 0 ∧ (numP p ns).isSome = false := by unfold numP; rw [if_neg h]; exact ⟨rfl, rfl⟩
end Go.PK

/- Of the proofs of YtafannhhkfpbeaaGreatDoor; see NOTES.md. -/
/-! The numbers of an issue as the reference counts; patterns that are made. -/
namespace Go.PK
open Go Go.RowKit
set_option linter.unusedVariables false
theorem rowOK.set {size n b c k : Nat} {cs xs : List Value} {v : Value} (h : rowOK size (some (b, cs, c)) n xs) (hk : k < n * size) : rowOK size (some (b, cs.set k v, c)) n (xs.set k v) := by
  obtain ⟨h1, h2, h3, h4, h5⟩ := h
  exact ⟨by simpa using h1, h2, h3, by simpa using h4, by simp only at h5 ⊢; rw [List.take_set, h5]⟩
theorem rowOK.setI {n b c k : Nat} {cs : List Value} {xs : List Int} {x : Int} (h : rowOK 1 (some (b, cs, c)) n (xs.map (Value.int .i64))) (hk : k < n) : rowOK 1 (some (b, cs.set k (.int .i64 x), c)) n ((xs.set k x).map (Value.int .i64)) := by
  rw [List.map_set]; exact h.set (by omega)
theorem ints_cells {D : Nat → Prop} {w : World} : ∀ {css : List (List Value)} {xs : List Int}, css.length = xs.length → (∀ j (h1 : j < css.length) (h2 : j < xs.length), tyI.rd D w css[j] xs[j]) → css.flatten = xs.map (Value.int .i64)
  | [], [], _, _ => rfl
  | [], _ :: _, h, _ => by simp at h
  | _ :: _, [], h, _ => by simp at h
  | c :: css, x :: xs, hl, h => by
    have h0 := (h 0 (by simp) (by simp)).1
    have ih := ints_cells (css := css) (xs := xs) (by simpa using hl) (fun j h1 h2 => h (j + 1) (by simpa using h1) (by simpa using h2))
    have h0 : c = [Value.int .i64 x] := h0
    rw [List.flatten_cons, ih, h0]; rfl
/-- What an append of a row of integers reads. -/
theorem ints_news {D : Nat → Prop} {w : World} {A : Option Addr} {m c : Nat} {xs : List Int} (h : sliceRd tyI D w (.slice A m c) xs) :
    (A = none → m = 0) ∧ (∀ w1, Later w w1 → ∀ a, A = some a → ∀ j u, (xs.map (Value.int .i64))[j]? = some u → w1.cell? (a.add j) = some u) ∧ m = xs.length := by
  obtain ⟨css, hcl, hm, _, hrd, hno, hat, _⟩ := h.cells
  rw [ints_cells hcl hrd] at hat
  exact ⟨hno, fun w1 hl a ha j u hu => by have := hat a ha j u hu; exact (hl.cell (cell_lt this)).trans this, hm⟩
theorem ints_one (xs : List Int) : (xs.map (Value.int .i64)).all (fun u => u.oneCell') = true := by
  rw [List.all_eq_true]; intro u hu; obtain ⟨x, _, rfl⟩ := List.mem_map.1 hu; rfl
theorem put_v {cs : List Value} {k : Nat} {x : Int} (h : k < cs.length) : List.take (0 + k * 1) cs ++ (Value.int .i64 x).cells.toList ++ List.drop (0 + k * 1 + 1) cs = cs.set k (.int .i64 x) := by
  rw [Nat.mul_one, Nat.zero_add]
  show List.take k cs ++ [Value.int .i64 x] ++ List.drop (k + 1) cs = _
  rw [List.set_eq_take_append_cons_drop, if_pos h]; simp
theorem lvOK.dr : ∀ {ss ls : List Int} (h : lvOK ss ls) (i : Nat), lvOK (ss.drop i) (ls.drop i)
  | _, _, h, 0 => h
  | [], [], h, i + 1 => by simpa using h
  | [], _ :: _, h, _ => by have := h.1; simp at this
  | _ :: _, [], h, _ => by have := h.1; simp at this
  | s :: ss, l :: ls, h, i + 1 => by simpa using h.tl.dr i
theorem rightQ.lv {p : Pat} (h : rightQ p) : lvOK p.st.tail p.lv.tail := by
  obtain ⟨s0, ls, ss, h1, h2, _, _, h5, _⟩ := h.split
  rw [h1, h2]; exact h5
def carryR (p : Pat) (k : Int) (i : Nat) : Int := (lowR (p.st.tail.drop i) (p.lv.tail.drop i) k).2
def outR (p : Pat) (k : Int) (i : Nat) : List Int := p.st.take (i + 1) ++ (lowR (p.st.tail.drop i) (p.lv.tail.drop i) k).1
theorem outR_start {p : Pat} (h : rightQ p) (k : Int) : outR p k (p.lv.length - 1) = p.st ∧ carryR p k (p.lv.length - 1) = k := by
  have h1 := h.1.1
  have h2 := h.1.2.2.1
  unfold outR carryR
  rw [List.drop_eq_nil_of_le (as := p.st.tail) (by simp; omega), List.take_of_length_le (by omega)]
  exact ⟨by simp [lowR], by simp [lowR]⟩
theorem outR_step {p : Pat} {k : Int} {i : Nat} (hs : p.st.length = p.lv.length) (h : i + 1 < p.lv.length) : (outR p k (i + 1)).getD (i + 1) 0 = p.st.getD (i + 1) 0 ∧
    carryR p k i = (p.st.getD (i + 1) 0 - 1 + carryR p k (i + 1)) / p.lv.getD (i + 1) 0 ∧ outR p k i = (outR p k (i + 1)).set (i + 1) ((p.st.getD (i + 1) 0 - 1 + carryR p k (i + 1)) % p.lv.getD (i + 1) 0 + 1) := by
  have hi : i + 1 < p.st.length := by omega
  have e1 : p.st.tail.drop i = p.st.getD (i + 1) 0 :: p.st.tail.drop (i + 1) := by rw [drop_getD (show i < p.st.tail.length by simp; omega), getD_tail]
  have e2 : p.lv.tail.drop i = p.lv.getD (i + 1) 0 :: p.lv.tail.drop (i + 1) := by rw [drop_getD (show i < p.lv.tail.length by simp; omega), getD_tail]
  have e3 : p.st.take (i + 1 + 1) = p.st.take (i + 1) ++ [p.st.getD (i + 1) 0] := by rw [List.take_succ_eq_append_getElem hi, getD_lt hi]
  unfold outR carryR
  refine ⟨?_, by rw [e1, e2]; rfl, ?_⟩
  · rw [e3, List.append_assoc, List.getD_eq_getElem?_getD, List.getElem?_append_right (by simp; omega)]
    simp [Nat.min_eq_left (show i + 1 ≤ p.st.length by omega)]
  · rw [e3, List.append_assoc, List.set_append_right _ _ (by simp; omega), e1, e2]
    simp [Nat.min_eq_left (show i + 1 ≤ p.st.length by omega), lowR]
theorem outR_end {p : Pat} (h : rightQ p) (k : Int) : (outR p k 0).getD 0 0 = p.st.getD 0 0 ∧ (outR p k 0).set 0 (p.st.getD 0 0 + carryR p k 0) = numsP p k := by
  unfold outR carryR numsP lowK baseP
  have hl := low_ref p.st.tail p.lv.tail 0 k h.lv
  rw [hl, List.drop_zero, List.drop_zero]
  cases hs : p.st with
  | nil => have h2 := h.1.2.2.1; have h1 := h.1.1; rw [hs] at h2; simp at h2; rw [← h2] at h1; simp at h1
  | cons s ss => simp
theorem outR_len {p : Pat} (h : rightQ p) {k : Int} {i : Nat} (hi : i < p.lv.length) : (outR p k i).length = p.lv.length := by
  have h2 := h.1.2.2.1
  unfold outR
  rw [List.length_append, List.length_take, lowR_len _ _ _ (h.lv.dr i).1, List.length_drop, List.length_tail]; omega
theorem carryR_rng {p : Pat} (h : rightQ p) {k : Int} (hk : 0 ≤ k) (i : Nat) : 0 ≤ carryR p k i ∧ carryR p k i ≤ k := lowR_rng _ _ k (h.lv.dr i) hk
/-- The pattern that numbers determine. -/
def madeL (l : List Int) : List Int := (l.take 3).map fun x => 1 + x % 12
def madeS (l : List Int) : List Int := (l.take 3).map fun x => 1 + x.tdiv 12 % (1 + x % 12)
def madeP (f d : Int) (l : List Int) : Pat := ⟨10000 + f % 10000, 1 + d % 10000, 0 :: madeL l, f % 50 :: madeS l⟩
theorem made_right (f d : Int) (l : List Int) : rightQ (madeP f d l) := by
  have m1 := Int.emod_nonneg f (show (10000 : Int) ≠ 0 by decide)
  have m2 := Int.emod_lt_of_pos f (show (0 : Int) < 10000 by decide)
  have m3 := Int.emod_nonneg d (show (10000 : Int) ≠ 0 by decide)
  have m4 := Int.emod_lt_of_pos d (show (0 : Int) < 10000 by decide)
  have m5 := Int.emod_nonneg f (show (50 : Int) ≠ 0 by decide)
  have m6 := Int.emod_lt_of_pos f (show (0 : Int) < 50 by decide)
  have hL : (madeL l).length = min 3 l.length := by simp [madeL]
  have hS : (madeS l).length = min 3 l.length := by simp [madeS]
  refine ⟨⟨by simp [madeP], by simp only [madeP, List.length_cons]; omega, by simp only [madeP, List.length_cons]; omega, rfl, m5, ?_⟩, fun j h1 h2 => ?_, ⟨by simp only [madeP]; omega, by simp only [madeP]; omega⟩, by simp only [madeP, okDay]; omega⟩
  · show f % 50 ≤ 1000000; omega
  · obtain ⟨i, rfl⟩ : ∃ i, j = i + 1 := ⟨j - 1, by omega⟩
    have hi : i < (madeL l).length := by simpa [madeP] using h1
    have hi2 : i < (madeS l).length := by omega
    have hi3 : i < (l.take 3).length := by simpa [madeL] using hi
    unfold lvAt
    simp only [madeP, List.getD_cons_succ]
    rw [getD_lt hi, getD_lt hi2]
    simp only [madeL, madeS, List.getElem_map]
    generalize (l.take 3)[i] = x
    have a1 := Int.emod_nonneg x (show (12 : Int) ≠ 0 by decide)
    have a2 := Int.emod_lt_of_pos x (show (0 : Int) < 12 by decide)
    have a3 := Int.emod_nonneg (x.tdiv 12) (show (1 + x % 12 : Int) ≠ 0 by omega)
    have a4 := Int.emod_lt_of_pos (x.tdiv 12) (show (0 : Int) < 1 + x % 12 by omega)
    omega
theorem tdiv_in {x : Int} (h : -9223372036854775808 ≤ x ∧ x ≤ 9223372036854775807) {m : Int} (hm : 0 < m) : -9223372036854775808 ≤ x.tdiv m ∧ x.tdiv m ≤ 9223372036854775807 := by
  rcases Int.le_total 0 x with h0 | h0
  · rw [Int.tdiv_eq_ediv_of_nonneg h0]
    have := Int.ediv_le_self m h0
    have := Int.ediv_nonneg h0 (show 0 ≤ m by omega)
    omega
  · have e : x.tdiv m = -((-x).tdiv m) := by rw [Int.neg_tdiv, Int.neg_neg]
    rw [e, Int.tdiv_eq_ediv_of_nonneg (by omega)]
    have := Int.ediv_le_self m (show 0 ≤ -x by omega)
    have := Int.ediv_nonneg (show 0 ≤ -x by omega) (show 0 ≤ m by omega)
    omega
theorem made_in (f d : Int) (l : List Int) : (∀ x ∈ 0 :: madeL l, in64 x) ∧ ∀ x ∈ f % 50 :: madeS l, in64 x := by
  have m5 := Int.emod_nonneg f (show (50 : Int) ≠ 0 by decide)
  have m6 := Int.emod_lt_of_pos f (show (0 : Int) < 50 by decide)
  have key : ∀ x : Int, (0 ≤ 1 + x % 12 ∧ 1 + x % 12 ≤ 12) ∧ (0 ≤ 1 + x.tdiv 12 % (1 + x % 12) ∧ 1 + x.tdiv 12 % (1 + x % 12) ≤ 12) := fun x => by
    have a1 := Int.emod_nonneg x (show (12 : Int) ≠ 0 by decide)
    have a2 := Int.emod_lt_of_pos x (show (0 : Int) < 12 by decide)
    have a3 := Int.emod_nonneg (x.tdiv 12) (show (1 + x % 12 : Int) ≠ 0 by omega)
    have a4 := Int.emod_lt_of_pos (x.tdiv 12) (show (0 : Int) < 1 + x % 12 by omega)
    omega
  constructor
  · intro x hx
    rcases List.mem_cons.1 hx with rfl | hx
    · unfold in64; omega
    · obtain ⟨y, _, rfl⟩ := List.mem_map.1 hx
      have := (key y).1; unfold in64; omega
  · intro x hx
    rcases List.mem_cons.1 hx with rfl | hx
    · unfold in64; omega
    · obtain ⟨y, _, rfl⟩ := List.mem_map.1 hx
      have := (key y).2; unfold in64; omega
theorem madeL_snoc {l : List Int} {k : Nat} (hk : k < l.length) (h : k < 3) : madeL (l.take (k + 1)) = madeL (l.take k) ++ [1 + l[k] % 12] := by
  unfold madeL
  rw [List.take_take, List.take_take, Nat.min_eq_right (by omega), Nat.min_eq_right (by omega), ← List.take_append_getElem hk, List.map_append]; rfl
theorem madeS_snoc {l : List Int} {k : Nat} (hk : k < l.length) (h : k < 3) : madeS (l.take (k + 1)) = madeS (l.take k) ++ [1 + l[k].tdiv 12 % (1 + l[k] % 12)] := by
  unfold madeS
  rw [List.take_take, List.take_take, Nat.min_eq_right (by omega), Nat.min_eq_right (by omega), ← List.take_append_getElem hk, List.map_append]; rfl
theorem made_all {l : List Int} {k : Nat} (h : k = l.length ∨ k = 3) : madeL (l.take k) = madeL l ∧ madeS (l.take k) = madeS l := by
  unfold madeL madeS
  rw [List.take_take]
  rcases h with rfl | rfl
  · by_cases h : l.length ≤ 3
    · rw [Nat.min_eq_right h, List.take_of_length_le (Nat.le_refl _), List.take_of_length_le h]; exact ⟨rfl, rfl⟩
    · rw [Nat.min_eq_left (by omega)]; exact ⟨rfl, rfl⟩
  · exact ⟨rfl, rfl⟩
end Go.PK

/- Of the proofs of YtafannhhkfpbeaaGreatDoor; see NOTES.md. -/
namespace Go.PK
open Go Go.RowKit
set_option linter.unusedVariables false
def kindOf : List Pb → Int | [] => 0 | p :: _ => p.kind
/-- The first index from m on. -/
def fidxFrom {α : Type} (p : α → Bool) (xs : List α) (m : Nat) : Int := match (xs.drop m).findIdx? p with | some i => ((m + i : Nat) : Int) | none => -1
end Go.PK

/- Of the proofs of YtafannhhkfpbeaaGreatDoor; see NOTES.md. -/
/-! Numbers as texts: what is written is read again; texts in front of and behind a sign. -/
namespace Go.PK
open Go Go.RowKit
set_option linter.unusedVariables false
def digB8 (c : UInt8) : Bool := decide (48 ≤ c.toNat ∧ c.toNat ≤ 57)
def numF (l : List UInt8) (a : Nat) : Nat := l.foldl (fun a c => 10 * a + (c.toNat - 48)) a
/-- Digits without leading zeros. -/
def canonL (l : List UInt8) : Prop := l ≠ [] ∧ (∀ c ∈ l, digB8 c = true) ∧ (1 < l.length → l.head? ≠ some 48)
instance (l : List UInt8) : Decidable (canonL l) := by unfold canonL; infer_instance
/-- What 'read' returns. -/
def readP (s : ByteArray) : Int := match Lib.atoiAll (bl s) with | .ok v => if s.size ≤ 18 then v else -1 | _ => -1
/-- The reference's numbers. -/
def valP (s : ByteArray) (most : Nat) : Int × Bool := if canonL (bl s) ∧ s.size ≤ most then (((numF (bl s) 0 : Nat) : Int), true) else (0, false)
end Go.PK

/- Of the proofs of YtafannhhkfpbeaaGreatDoor; see NOTES.md. -/
/-! Orders and invoices: the plain functions. -/
namespace Go.PK
open Go Go.RowKit
set_option linter.unusedVariables false
def Ord.okA (o : Ord) : Prop := o.ok ∧ in64 o.prom ∧ in64 o.paid ∧ in64 o.st
def tyOrd : Ty Ord where
  size := 9
  rd := fun _ _ cs o => cs = o.cells ∧ o.okA
  len := fun h => by rw [h.1]; rfl
  keep := fun h _ => h
/-- A component of a segment, as text. -/
def txO (l : List Seg) (n e c : Nat) : Option ByteArray := ((l[n]?).bind fun x => x.els[e]?).bind fun y => y[c]?
def txt (l : List Seg) (n e c : Nat) : ByteArray := (txO l n e c).getD ⟨#[]⟩
def atP (l : List Seg) (n e c : Nat) : Int × Bool := match txO l n e c with | some s => valP s 9 | none => (0, false)
def cutD (s : ByteArray) : ByteArray × ByteArray × Bool := (⟨(Lib.cut (bl s) [46]).1.toArray⟩, ⟨(Lib.cut (bl s) [46]).2.1.toArray⟩, (Lib.cut (bl s) [46]).2.2)
def recS (s : ByteArray) : Int × Int := (readP (cutD s).1, readP (cutD s).2.1)
def rrecS (s : ByteArray) : (Int × Int) × Bool := if (cutD s).2.2 then (((valP (cutD s).1 9).1, (valP (cutD s).2.1 9).1), (valP (cutD s).1 9).2 && (valP (cutD s).2.1 9).2) else ((0, 0), false)
def rrec (l : List Seg) (n : Nat) : (Int × Int) × Bool := match (l[n]?).bind (fun x => x.els[2]?) with | none => ((0, 0), false) | some y => match y[0]? with | none => ((0, 0), false) | some s => rrecS s
def mkO (id fund : Int) (r : Int × Int) (copies price : Int) : Ord := ⟨id, fund, r.1, r.2, copies, price, 0, 0, 0⟩
def zeroO : Ord := ⟨0, 0, 0, 0, 0, 0, 0, 0, 0⟩
def recT (s n : Int) : ByteArray := (itoaS s ++ ⟨#[46]⟩) ++ itoaS n
def tU : ByteArray := ⟨#[85, 78, 72]⟩
def orderX (o : Ord) : List Seg :=
  [⟨⟨#[85, 78, 72]⟩, [[⟨#[49]⟩], [⟨#[79, 82, 68, 69, 82, 83]⟩, ⟨#[68]⟩, ⟨#[57, 54, 65]⟩, ⟨#[85, 78]⟩]]⟩,
   ⟨⟨#[66, 71, 77]⟩, [[⟨#[50, 50, 48]⟩], [itoaS o.id]]⟩,
   ⟨⟨#[76, 73, 78]⟩, [[itoaS 1], [⟨#[]⟩], [recT o.src o.num, ⟨#[83, 82, 86]⟩]]⟩,
   ⟨⟨#[81, 84, 89]⟩, [[⟨#[50, 49]⟩, itoaS o.copies]]⟩,
   ⟨⟨#[80, 82, 73]⟩, [[⟨#[65, 65, 65]⟩, itoaS o.price]]⟩,
   ⟨⟨#[82, 70, 70]⟩, [[⟨#[66, 70, 78]⟩, itoaS o.fund]]⟩,
   ⟨⟨#[85, 78, 84]⟩, [[⟨#[55]⟩], [⟨#[49]⟩]]⟩]
def nnO (o : Ord) : Prop := 0 ≤ o.id ∧ 0 ≤ o.fund ∧ 0 ≤ o.src ∧ 0 ≤ o.num ∧ 0 ≤ o.copies ∧ 0 ≤ o.price
def wrO (o : Ord) : Prop := (1 ≤ o.id ∧ o.id ≤ 999999999) ∧ (1 ≤ o.fund ∧ o.fund ≤ 999999999) ∧ (0 ≤ o.src ∧ o.src ≤ 999999999) ∧ (0 ≤ o.num ∧ o.num ≤ 999999999) ∧ (0 ≤ o.price ∧ o.price ≤ 999999999) ∧ (1 ≤ o.copies ∧ o.copies ≤ 9999)
instance (o : Ord) : Decidable (wrO o) := by unfold wrO; infer_instance
theorem p3 (a b c : UInt8) (s : ByteArray) : (⟨#[a, b, c]⟩ : ByteArray) ++ s = ((⟨#[a, b]⟩ : ByteArray) ++ ⟨#[c]⟩) ++ s := rfl
theorem p4 (a b c d : UInt8) (s : ByteArray) : (⟨#[a, b, c, d]⟩ : ByteArray) ++ s = ((⟨#[a, b, c]⟩ : ByteArray) ++ ⟨#[d]⟩) ++ s := rfl
theorem c46 : ((46 : UInt8).toNat < 48 ∨ 57 < (46 : UInt8).toNat) := .inl (by decide)
/-- What an order's segments are read as, by the program. -/
def rdE (l : List Seg) : Ord := mkO (readP (txt l 1 1 0)) (readP (txt l 5 0 1)) (recS (txt l 2 2 0)) (readP (txt l 3 0 1)) (readP (txt l 4 0 1))
def rdO (l : List Seg) : Ord × Int := if wrO (rdE l) ∧ orderP (rdE l) = l then (rdE l, 0) else (zeroO, 11)
def rdR (l : List Seg) : Ord := mkO (atP l 1 1 0).1 (atP l 5 0 1).1 (rrec l 2).1 (atP l 3 0 1).1 (atP l 4 0 1).1
def rrO (l : List Seg) : Ord × Int := if ((((rrec l 2).2 = true ∧ (atP l 1 1 0).2 = true) ∧ (atP l 3 0 1).2 = true) ∧ (atP l 4 0 1).2 = true) ∧ (atP l 5 0 1).2 = true ∧ wrO (rdR l) ∧ orderX (rdR l) = l then (rdR l, 0) else (zeroO, 11)
def normO (o : Ord) : Ord := { o with prom := 0, paid := 0, st := 0 }
end Go.PK

/- Of the proofs of YtafannhhkfpbeaaGreatDoor; see NOTES.md. -/
/-! Orders: what their segments are read as; sizes. -/
namespace Go.PK
open Go Go.RowKit
set_option linter.unusedVariables false
/-- The order of a law's second round: all its numbers may be written. -/
def smallO (o : Ord) : Ord := ⟨1 + o.id % 999999999, 1 + o.fund % 999999999, o.src % 1000000000, o.num % 1000000000, 1 + o.copies % 9999, o.price % 1000000000, o.prom, o.paid, o.st⟩
end Go.PK

/- Of the proofs of YtafannhhkfpbeaaGreatDoor; see NOTES.md. -/
/-! Invoices: the plain functions. -/
namespace Go.PK
open Go Go.RowKit
set_option linter.unusedVariables false
def inv4 (k : Nat) (o : Ord) : List Seg :=
  [⟨⟨#[76, 73, 78]⟩, [[itoaS ((k + 1 : Nat) : Int)], [⟨#[]⟩], [recT o.src o.num, ⟨#[83, 82, 86]⟩]]⟩,
   ⟨⟨#[82, 70, 70]⟩, [[⟨#[79, 78]⟩, itoaS o.id]]⟩,
   ⟨⟨#[81, 84, 89]⟩, [[⟨#[52, 55]⟩, itoaS o.copies]]⟩,
   ⟨⟨#[80, 82, 73]⟩, [[⟨#[65, 65, 65]⟩, itoaS o.price]]⟩]
def linesX : Nat → List Ord → List Seg
  | _, [] => []
  | k, o :: t => inv4 k o ++ linesX (k + 1) t
def headX : List Seg :=
  [⟨⟨#[85, 78, 72]⟩, [[⟨#[49]⟩], [⟨#[73, 78, 86, 79, 73, 67]⟩, ⟨#[68]⟩, ⟨#[57, 54, 65]⟩, ⟨#[85, 78]⟩]]⟩, ⟨⟨#[66, 71, 77]⟩, [[⟨#[51, 56, 48]⟩]]⟩]
def tailX (n : Nat) (t : ByteArray) : List Seg :=
  [⟨⟨#[85, 78, 83]⟩, [[⟨#[83]⟩]]⟩, ⟨⟨#[77, 79, 65]⟩, [[⟨#[56, 54]⟩, t]]⟩, ⟨⟨#[85, 78, 84]⟩, [[itoaS ((4 * n + 5 : Nat) : Int)], [⟨#[49]⟩]]⟩]
def withX (ls : List Ord) (t : ByteArray) : List Seg := (headX ++ linesX 0 ls) ++ tailX ls.length t
def pf (o : Ord) : Ord := { o with fund := 1 }
def payP (ls : List Ord) : Prop := 1 ≤ ls.length ∧ ls.length ≤ 999 ∧ ∀ o ∈ ls, wrO (pf o)
instance (ls : List Ord) : Decidable (payP ls) := by unfold payP; infer_instance
def totalP (ls : List Ord) : Int := (ls.map fun o => o.copies * o.price).sum
def invR (ls : List Ord) : List Seg := if payP ls then withX ls (itoaS (totalP ls)) else []
def normI (o : Ord) : Ord := mkO o.id 0 (o.src, o.num) o.copies o.price
def lineE (l : List Seg) (k : Nat) : Ord := mkO (readP (txt l (4 * k + 3) 0 1)) 0 (recS (txt l (4 * k + 2) 2 0)) (readP (txt l (4 * k + 4) 0 1)) (readP (txt l (4 * k + 5) 0 1))
def linesE (l : List Seg) : List Ord := (List.range (min 1000 ((l.length - 3) / 4))).map (lineE l)
def totE (l : List Seg) : ByteArray := txt l (l.length - 2) 0 1
def rdI (l : List Seg) : List Ord × Int :=
  if payP (linesE l) ∧ (invR (linesE l)).length = l.length then
    if invR (linesE l) = l then (linesE l, 0)
    else if 0 ≤ readP (totE l) ∧ itoaS (readP (totE l)) = totE l ∧ withX (linesE l) (totE l) = l then ([], 60) else ([], 11)
  else ([], 11)
def lineR (l : List Seg) (k : Nat) : Ord := mkO (atP l (4 * k + 3) 0 1).1 0 (rrec l (4 * k + 2)).1 (atP l (4 * k + 4) 0 1).1 (atP l (4 * k + 5) 0 1).1
def lineOk (l : List Seg) (k : Nat) : Prop := (rrec l (4 * k + 2)).2 = true ∧ (atP l (4 * k + 3) 0 1).2 = true ∧ (atP l (4 * k + 4) 0 1).2 = true ∧ (atP l (4 * k + 5) 0 1).2 = true
def cntR (l : List Seg) : Nat := (l.length - 5) / 4
def linesR (l : List Seg) : List Ord := (List.range (cntR l)).map (lineR l)
def shapeR (l : List Seg) : Prop := 9 ≤ l.length ∧ l.length % 4 = 1 ∧ l.length ≤ 4001
def moaR (l : List Seg) : Prop := ∃ x, l[l.length - 2]? = some x ∧ x.els.length = 1 ∧ ∃ y, x.els[0]? = some y ∧ y.length = 2
def okR (l : List Seg) : Prop := shapeR l ∧ (∀ k, k < cntR l → lineOk l k) ∧ payP (linesR l) ∧ moaR l ∧ (valP (totE l) 18).2 = true ∧ withX (linesR l) (totE l) = l
open Classical in
noncomputable def rrI (l : List Seg) : List Ord × Int := if okR l then (if (valP (totE l) 18).1 = totalP (linesR l) then (linesR l, 0) else ([], 60)) else ([], 11)
end Go.PK

/- Of the proofs of YtafannhhkfpbeaaGreatDoor; see NOTES.md. -/
/-! Rows that grow by several elements; totals. -/
namespace Go.PK
open Go Go.RowKit
set_option linter.unusedVariables false
theorem take_snoc {α : Type} {ls : List α} {k : Nat} (hk : k < ls.length) : ls.take (k + 1) = ls.take k ++ [ls[k]] := List.take_succ_eq_append_getElem hk
end Go.PK

/- Of the proofs of YtafannhhkfpbeaaGreatDoor; see NOTES.md. -/
/-! Serials: entries, what Take does. -/
namespace Go.PK
open Go Go.RowKit
set_option linter.unusedVariables false
structure Ent where
  fr : Int
  to : Int
  sk : Bool
  day : Int
deriving DecidableEq
def entC (x : Ent) : List Value := [.int .i64 x.fr, .int .i64 x.to, .bool x.sk, .int .i64 x.day]
def entV (x : Ent) : Value := .agg (entC x).toArray
def entsC (l : List Ent) : List Value := l.flatMap entC
def entIn (x : Ent) : Prop := in64 x.fr ∧ in64 x.to ∧ in64 x.day
def tyEnt : Ty Ent where
  size := 4
  rd := fun _ _ cs x => cs = entC x ∧ entIn x
  len := fun h => by rw [h.1]; rfl
  keep := fun h _ => h
theorem ent_at {D : Nat → Prop} {w : World} {A : Option Addr} {l c : Nat} {xs : List Ent} (h : sliceRd tyEnt D w (.slice A l c) xs) {k : Nat} (hk : k < xs.length) :
    ∃ b off, A = some ⟨b, off, none⟩ ∧ D b ∧ (∀ j (hj : j < (entC xs[k]).length), w.cell? ⟨b, off + k * 4 + j, none⟩ = some (entC xs[k])[j]) ∧ entIn xs[k] := by
  obtain ⟨A', c', e, h1, h2, h3⟩ := h
  injection e with e1 e2 e3
  obtain ⟨b, off, hA, hD, hb, hc⟩ := h3 (by omega)
  obtain ⟨cs, hcs, hr, hok⟩ := hc k hk
  subst hr
  exact ⟨b, off, e1.trans hA, hD, fun j hj => hcs j hj, hok⟩
theorem entsC_len (l : List Ent) : (entsC l).length = l.length * 4 := by
  induction l with
  | nil => rfl
  | cons x xs ih => show (entC x ++ entsC xs).length = _; rw [List.length_append, ih, List.length_cons]; show 4 + _ = _; omega
theorem entsC_one (l : List Ent) : (entsC l).all (fun u => u.oneCell') = true := by
  rw [List.all_eq_true]; intro u hu
  obtain ⟨x, _, hx⟩ := List.mem_flatMap.1 hu
  simp only [entC, List.mem_cons, List.mem_nil_iff, or_false] at hx
  rcases hx with rfl | rfl | rfl | rfl <;> rfl
theorem entsC_app (a b : List Ent) : entsC (a ++ b) = entsC a ++ entsC b := by unfold entsC; rw [List.flatMap_append]
theorem entsC_take : ∀ (l : List Ent) (i : Nat), (entsC l).take (i * 4) = entsC (l.take i)
  | _, 0 => by simp [entsC]
  | [], i + 1 => by simp [entsC]
  | x :: xs, i + 1 => by
    show (entC x ++ entsC xs).take _ = entC x ++ entsC (xs.take i)
    rw [← entsC_take xs i, Nat.add_mul]; rfl
theorem entsC_drop : ∀ (l : List Ent) (i : Nat), (entsC l).drop (i * 4) = entsC (l.drop i)
  | _, 0 => by simp
  | [], i + 1 => by simp [entsC]
  | x :: xs, i + 1 => by
    show (entC x ++ entsC xs).drop _ = entsC (xs.drop i)
    rw [← entsC_drop xs i, Nat.add_mul, Nat.add_comm, ← List.drop_drop]; rfl
theorem ents_rd {D : Nat → Prop} {w : World} {own : List (Nat × Obj)} {ro : List Snap} {e : TypeId} {R : RowS} {es : List Ent} {n : Nat} (hr : rowOK 4 R n (entsC es)) (hn : n = es.length) (hi : ∀ x ∈ es, entIn x)
    (hm : Mem w own ro) (hin : ∀ p ∈ rowO e R, p ∈ own) (hD : ∀ p ∈ rowO e R, D p.1) : sliceRd tyEnt D w (rowV R n) es := by
  subst hn
  have h : RowT tyEnt (fun _ => False) w R es := ⟨es.map entC, by simp, by rw [← List.flatMap_def]; exact hr, fun j h1 h2 => by rw [List.getElem_map]; exact ⟨rfl, hi _ (List.getElem_mem h2)⟩⟩
  exact h.rd hm hin (fun _ h => h.elim) hD rfl
/-- What strconv.Atoi reads. -/
def atoiV (x : ByteArray) : Int := match Lib.atoiAll (bl x) with | .ok n => n | _ => 0
def numOKb (x : ByteArray) : Bool := match Lib.atoiAll (bl x) with | .ok n => decide (0 ≤ n) && decide (x.size ≤ 7) && decide (itoaS n = x) | _ => false
theorem numOK_yes {x : ByteArray} {n : Int} (h : Lib.atoiAll (bl x) = .ok n) : atoiV x = n ∧ numOKb x = (decide (0 ≤ n) && decide (x.size ≤ 7) && decide (itoaS n = x)) := by unfold atoiV numOKb; rw [h]; exact ⟨rfl, rfl⟩
theorem numOK_no {x : ByteArray} (h : ∀ v, Lib.atoiAll (bl x) ≠ .ok v) : numOKb x = false := by
  unfold numOKb
  cases hq : Lib.atoiAll (bl x) with
  | ok v => exact absurd hq (h v)
  | _ => rfl
theorem atoiV_in (x : ByteArray) : in64 (atoiV x) := by
  unfold atoiV
  cases hq : Lib.atoiAll (bl x) with
  | ok v => exact Lib.atoiAll_bounds hq
  | _ => unfold in64; decide
/-- The text is split at each sep. -/
def splitG (s sep : ByteArray) : List ByteArray := Lib.splitB sep 0 (Lib.countB s sep) s
def slash : ByteArray := ⟨#[47]⟩
/-- The numbers of an issue. -/
def numsOf (s : ByteArray) : List Int × Bool := if (splitG s slash).all numOKb then ((splitG s slash).map atoiV, decide ((splitG s slash).length ≤ 4)) else ([], false)
def cutG (s sep : ByteArray) : ByteArray × ByteArray × Bool := (⟨(Lib.cut (bl s) (bl sep)).1.toArray⟩, ⟨(Lib.cut (bl s) (bl sep)).2.1.toArray⟩, (Lib.cut (bl s) (bl sep)).2.2)
theorem num_case {x : ByteArray} {n : Int} {b : Bool} (h1 : b = false → Lib.atoiAll (bl x) = .ok n) (h2 : b = true → ∀ v, Lib.atoiAll (bl x) ≠ .ok v) :
    numOKb x = !(((b || decide (n < 0)) || decide ((x.size : Int) > 7)) || decide (itoaS n ≠ x)) := by
  cases b with
  | true => rw [numOK_no (h2 rfl)]; simp
  | false =>
    rw [(numOK_yes (h1 rfl)).2, Bool.eq_iff_iff]
    simp only [Bool.and_eq_true, decide_eq_true_eq, Bool.false_or, Bool.not_eq_true', Bool.or_eq_false_iff, decide_eq_false_iff_not, ne_eq, Decidable.not_not]
    exact ⟨fun ⟨⟨a, b⟩, c⟩ => ⟨⟨by omega, by omega⟩, c⟩, fun ⟨⟨a, b⟩, c⟩ => ⟨⟨by omega, by omega⟩, c⟩⟩
theorem numsOf_no {s : ByteArray} {k : Nat} (hk : k < (splitG s slash).length) (h : numOKb (splitG s slash)[k] = false) : numsOf s = ([], false) := by
  unfold numsOf
  rw [if_neg fun h2 => ?_]
  have := List.all_eq_true.1 h2 _ (List.getElem_mem hk)
  rw [h] at this; cases this
theorem numsOf_yes {s : ByteArray} (h : ∀ j (hj : j < (splitG s slash).length), numOKb (splitG s slash)[j] = true) : numsOf s = ((splitG s slash).map atoiV, decide ((splitG s slash).length ≤ 4)) := by
  unfold numsOf
  rw [if_pos (List.all_eq_true.2 fun x hx => by obtain ⟨j, hj, rfl⟩ := List.getElem_of_mem hx; exact h j hj)]
/-- An entry is put ahead of the first one that comes behind it. -/
def insI (es : List Ent) (to : Int) : Nat := es.findIdx (fun e => decide (to < e.fr))
def insE (es : List Ent) (x : Ent) : List Ent := es.take (insI es x.to) ++ x :: es.drop (insI es x.to)
theorem insI_le (es : List Ent) (to : Int) : insI es to ≤ es.length := List.findIdx_le_length
theorem insI_idx (es : List Ent) (to : Int) : fidx (fun e : Ent => decide (to < e.fr)) es = if insI es to < es.length then ((insI es to : Nat) : Int) else -1 := by
  unfold fidx insI
  rw [List.findIdx?_eq_guard_findIdx_lt]
  by_cases h : List.findIdx (fun e : Ent => decide (to < e.fr)) es < es.length
  · rw [if_pos h]; simp [Option.guard, h]
  · rw [if_neg h]; simp [Option.guard, h]
/-- Take: what the entries are then, and the error. -/
def takeP (p : Pat) (es : List Ent) (sk : Bool) (f t : List Int) (day : Int) : List Ent × Int :=
  match numP p f, numP p t with
  | some i, some j => if j < i ∨ 100 ≤ j - i then (es, 32) else if es.any (fun e => decide (i ≤ e.to) && decide (e.fr ≤ j)) then (es, 22) else (insE es ⟨i, j, sk, day⟩, 0)
  | _, _ => (es, 32)
def tkR (text : ByteArray) : ByteArray := ⟨(Lib.trimPrefix (bl text) (bl ⟨#[120]⟩)).toArray⟩
def tkA (text : ByteArray) : ByteArray := (cutG (tkR text) ⟨#[45]⟩).1
def tkB (text : ByteArray) : ByteArray := if (cutG (tkR text) ⟨#[45]⟩).2.2 then (cutG (tkR text) ⟨#[45]⟩).2.1 else (cutG (tkR text) ⟨#[45]⟩).1
def tkS (text : ByteArray) : Bool := Lib.hasPrefix (bl text) (bl ⟨#[120]⟩)
def takeQ (p : Pat) (es : List Ent) (text : ByteArray) (day : Int) : List Ent × Int :=
  if (!(numsOf (tkA text)).2 || !(numsOf (tkB text)).2) = true then (es, 11) else if okDay day then takeP p es (tkS text) (numsOf (tkA text)).1 (numsOf (tkB text)).1 day else (es, 1)
theorem trim_sz (s p : List UInt8) : (Lib.trimPrefix s p).length ≤ s.length := by
  unfold Lib.trimPrefix
  split
  · rw [List.length_drop]; omega
  · exact Nat.le_refl _
theorem cutG_le (s sep : ByteArray) : (cutG s sep).1.size ≤ s.size ∧ (cutG s sep).2.1.size ≤ s.size := by
  have e : s.size = (bl s).length := (bl_len s).symm
  unfold cutG Lib.cut
  split
  · constructor
    · show (List.toArray _).size ≤ _; rw [List.size_toArray, e]; exact List.length_take_le' _ _
    · show (List.toArray _).size ≤ _; rw [List.size_toArray, e, List.length_drop]; omega
  · constructor
    · show (List.toArray _).size ≤ _; rw [List.size_toArray, e]; exact Nat.le_refl _
    · exact Nat.zero_le _
theorem tk_sz (text : ByteArray) : (tkR text).size ≤ text.size ∧ (tkA text).size ≤ text.size ∧ (tkB text).size ≤ text.size := by
  have h1 : (tkR text).size ≤ text.size := by
    show (List.toArray _).size ≤ _
    rw [List.size_toArray]
    have := trim_sz (bl text) (bl ⟨#[120]⟩)
    rw [bl_len] at this; exact this
  have h2 := cutG_le (tkR text) ⟨#[45]⟩
  refine ⟨h1, Nat.le_trans h2.1 h1, ?_⟩
  unfold tkB
  split
  · exact Nat.le_trans h2.2 h1
  · exact Nat.le_trans h2.1 h1
theorem numP_rng (p : Pat) (ns : List Int) : 0 ≤ (numP p ns).getD 0 ∧ (numP p ns).getD 0 < 100000 := by
  by_cases h : numC p ns
  · rw [(numP_some h).1]; exact h.2.2.2.2.2
  · rw [(numP_none h).1]; decide
theorem takeP_none {p : Pat} {es : List Ent} {sk : Bool} {f t : List Int} {day : Int} (h : (numP p f).isSome = false ∨ (numP p t).isSome = false) : takeP p es sk f t day = (es, 32) := by
  unfold takeP
  cases hf : numP p f <;> cases ht : numP p t <;> simp [hf, ht] at h ⊢
theorem takeP_some {p : Pat} {es : List Ent} {sk : Bool} {f t : List Int} {day : Int} (h1 : (numP p f).isSome = true) (h2 : (numP p t).isSome = true) :
    takeP p es sk f t day = if (numP p t).getD 0 < (numP p f).getD 0 ∨ 100 ≤ (numP p t).getD 0 - (numP p f).getD 0 then (es, 32) else
      if es.any (fun e => decide ((numP p f).getD 0 ≤ e.to) && decide (e.fr ≤ (numP p t).getD 0)) then (es, 22) else (insE es ⟨(numP p f).getD 0, (numP p t).getD 0, sk, day⟩, 0) := by
  unfold takeP
  cases hf : numP p f <;> cases ht : numP p t <;> simp [hf, ht] at h1 h2 ⊢
/-- A gap is made and filled: in a new row .. -/
theorem put_two {cs A B C : List Value} {a : Nat} (h : cs.take a = A) (ha : A.length = a) (hl : a + B.length + C.length ≤ cs.length) :
    ((cs.take a ++ B ++ cs.drop (a + B.length)).take (a + B.length) ++ C ++ (cs.take a ++ B ++ cs.drop (a + B.length)).drop (a + B.length + C.length)).length = cs.length ∧
    ((cs.take a ++ B ++ cs.drop (a + B.length)).take (a + B.length) ++ C ++ (cs.take a ++ B ++ cs.drop (a + B.length)).drop (a + B.length + C.length)).take (a + B.length + C.length) = A ++ (B ++ C) := by
  have hla : (cs.take a ++ B).length = a + B.length := by rw [h, List.length_append, ha]
  refine ⟨?_, ?_⟩
  · simp only [List.length_append, List.length_take, List.length_drop]; omega
  · rw [show (cs.take a ++ B ++ cs.drop (a + B.length)).take (a + B.length) = cs.take a ++ B from by rw [← hla]; exact List.take_left, h]
    rw [show a + B.length + C.length = (A ++ B ++ C).length by simp [ha]; omega, List.take_left, List.append_assoc]
/-- .. and in the same row. -/
theorem put_back {cs A B C : List Value} {a : Nat} (h : cs.take a = A) (ha : A.length = a) (hl : a + B.length + C.length ≤ cs.length) :
    ((cs.take (a + B.length) ++ C ++ cs.drop (a + B.length + C.length)).take a ++ B ++ (cs.take (a + B.length) ++ C ++ cs.drop (a + B.length + C.length)).drop (a + B.length)).length = cs.length ∧
    ((cs.take (a + B.length) ++ C ++ cs.drop (a + B.length + C.length)).take a ++ B ++ (cs.take (a + B.length) ++ C ++ cs.drop (a + B.length + C.length)).drop (a + B.length)).take (a + B.length + C.length) = A ++ (B ++ C) := by
  have hla : (cs.take (a + B.length)).length = a + B.length := by rw [List.length_take]; omega
  have e1 : (cs.take (a + B.length) ++ C ++ cs.drop (a + B.length + C.length)).take a = A := by
    rw [List.append_assoc, List.take_append_of_le_length (by omega), List.take_take, Nat.min_eq_left (by omega), h]
  have e2 : (cs.take (a + B.length) ++ C ++ cs.drop (a + B.length + C.length)).drop (a + B.length) = C ++ cs.drop (a + B.length + C.length) := by
    rw [List.append_assoc]
    have h9 := List.drop_left (l₁ := cs.take (a + B.length)) (l₂ := C ++ cs.drop (a + B.length + C.length))
    rw [hla] at h9
    exact h9
  rw [e1, e2]
  refine ⟨?_, ?_⟩
  · simp only [List.length_append, List.length_drop]; omega
  · rw [show A ++ B ++ (C ++ cs.drop (a + B.length + C.length)) = (A ++ (B ++ C)) ++ cs.drop (a + B.length + C.length) by simp [List.append_assoc], show a + B.length + C.length = (A ++ (B ++ C)).length by simp [ha]; omega]
    exact List.take_left
theorem ents_at {es : List Ent} {cs : List Value} (h : cs.take (es.length * 4) = entsC es) {i : Nat} (hi : i ≤ es.length) : cs.take (i * 4) = entsC (es.take i) := by
  rw [← entsC_take, ← h, List.take_take, Nat.min_eq_left (by omega)]
theorem ents_get {es : List Ent} {cs : List Value} (h : cs.take (es.length * 4) = entsC es) (hl : es.length * 4 ≤ cs.length) {i : Nat} (hi : i ≤ es.length) {j : Nat} (hj : j < (entsC (es.drop i)).length) : cs[i * 4 + j]? = some (entsC (es.drop i))[j] := by
  have hlen : (entsC (es.drop i)).length = (es.length - i) * 4 := by rw [entsC_len, List.length_drop]
  have e : (entsC (es.drop i))[j]? = cs[i * 4 + j]? := by
    rw [← entsC_drop, ← h, List.getElem?_drop, List.getElem?_take_of_lt (by omega)]
  rw [← e]; exact List.getElem?_eq_getElem hj
end Go.PK

/- Of the proofs of YtafannhhkfpbeaaGreatDoor; see NOTES.md. -/
/-! From the shelf's world-forms to memory: worlds that grew, rows of integers that were turned in place. -/
namespace Go.PK
open Go Go.RowKit
set_option linter.unusedVariables false
/-- A block that was made beside. -/
theorem Mem.made1 {w w' : World} {own : List (Nat × Obj)} {ro : List Snap} (hm : Mem w own ro) (hl : Later w w') {g : Nat} {o : Obj} (hg : w.heap.size ≤ g) (ho : w'.heap[g]? = some o) : Mem w' ((g, o) :: own) ro where
  own_at := fun p hp => by
    rcases List.mem_cons.1 hp with rfl | hp
    · exact ho
    · exact (hm.later hl).own_at p hp
  own_nd := by
    simp only [List.map_cons, List.nodup_cons]
    refine ⟨fun h => ?_, hm.own_nd⟩
    obtain ⟨p, hp, he⟩ := List.mem_map.1 h
    have := hm.lt hp
    omega
  ro_st := (hm.later hl).ro_st
  ro_at := (hm.later hl).ro_at
  apart := fun p hp s hs hd => by
    rcases List.mem_cons.1 hp with rfl | hp
    · exact Nat.le_trans (hm.ro_st s hs).2.2.2 hg
    · exact hm.apart p hp s hs hd
theorem Mem.ofRow {w w' : World} {own : List (Nat × Obj)} {ro : List Snap} {e : TypeId} {size n B : Nat} {v : Value} {xs : List Value} (hm : Mem w own ro) (hl : Later w w') (hB : w.heap.size ≤ B) (h : w'.ownsRow B e size v n xs) :
    ∃ r, v = rowV r n ∧ rowOK size r n xs ∧ Mem w' (rowO e r ++ own) ro := by
  obtain ⟨h1, h2⟩ := h
  rcases h2 with ⟨rfl, rfl⟩ | ⟨g, cap, cur, rfl, hg, hh, hnc, hcm, hcs, htk⟩
  · exact ⟨none, rfl, ⟨h1, rfl⟩, hm.later hl⟩
  · exact ⟨some (g, cur.toList, cap), rfl, ⟨h1, hnc, hcm, by simpa using hcs, htk⟩, hm.made1 hl (by omega) (by simpa using hh)⟩
/-- The row's first cells turned. -/
def turnL (zs : List Int) (cs : List Value) : List Value := (Sort.putCells (Value.int .i64) 0 zs.toArray cs.toArray).toList
end Go.PK

/- Of the proofs of YtafannhhkfpbeaaGreatDoor; see NOTES.md. -/
/-! 'append' onto a full slice of whatever memory: it is copied. -/
namespace Go.PK
open Go Go.RowKit
set_option linter.unusedVariables false
section
variable {P : Program} {n : Nat} {l : List (Nat × Value)} {own : List (Nat × Obj)} {ro : List Snap} {lops : List Oper} {Q : Exit → Act → World → Prop} {K : Act → World → Prop}
  {rest : List (Option Bool × Nat)} {k : Option Bool} {i d : Nat} {op : Op} {ty : TypeId} {pos : String} {af : Array Edge} {x y z' : Operand} {t : TypeId}
end
end Go.PK

/- Of the proofs of YtafannhhkfpbeaaGreatDoor; see NOTES.md. -/
/-! Segments that numbers determine: the plain function. -/
namespace Go.PK
open Go Go.RowKit
set_option linter.unusedVariables false
def textAt (texts : List ByteArray) (c : UInt8) : ByteArray := texts.getD (c.toNat / 4 % texts.length) ⟨#[]⟩
def stepEl (texts : List ByteArray) (xs : List (List ByteArray)) (c : UInt8) : List (List ByteArray) :=
  if c.toNat % 64 = 63 then xs ++ [[]] else addLast (if xs.length = 0 ∨ c.toNat % 4 = 0 then xs ++ [[]] else xs) (textAt texts c)
def elsAt (texts : List ByteArray) (row : List UInt8) (j : Nat) : List (List ByteArray) := (row.take j).foldl (stepEl texts) []
def segAt (texts : List ByteArray) (l : List (List UInt8)) (tags : List ByteArray) (k : Nat) : Seg := ⟨tags.getD k ⟨#[]⟩, elsAt texts (l.getD k []) 12⟩
def segsK (tags texts : List ByteArray) (l : List (List UInt8)) (k : Nat) : List Seg := (List.range k).map (segAt texts l tags)
def segsP (tags texts : List ByteArray) (l : List (List UInt8)) : List Seg := segsK tags texts l (min tags.length 10)
end Go.PK

/- Of the proofs of YtafannhhkfpbeaaGreatDoor; see NOTES.md. -/
/-! Components of segments, read; results of which one lies in a cell. -/
namespace Go.PK
open Go Go.RowKit
set_option linter.unusedVariables false
section
variable {P : Program} {n : Nat} {l : List (Nat × Value)} {own : List (Nat × Obj)} {ro : List Snap} {Q : Exit → Act → World → Prop} {K : Act → World → Prop} {R : Ending → World → Prop} {fn : Func}
/-- Two results, the first in a block of the call's own. -/
theorem retct {t u : Tmp} {ty : TypeId} {td : TypeDesc} {b : Nat} {cs : Array Value} {e : TypeId} {fz : Nat × Nat} {v : Value} (hr : fn.results = #[.cell t ty, .tmp u]) (hv : l.lookup t = some (.pointer (some ⟨b, 0, none⟩))) (hu : l.lookup u = some v) (hb : (b, Obj.cells cs e fz) ∈ own)
    (ht : P.underlying ty = some td) (hd : aggT td = true) (hs : (P.info? ty).map (·.size) = some cs.size) (h : ∀ w', Mem w' own ro → R (.returned (.tuple #[.agg cs, v])) w') : S (bodyPost P fn R .ret) n l own ro := by
  intro a w ha hw
  refine ⟨ha.df, _, ?_, h w hw⟩
  have h1 := ha.at_ t _ hv
  have h2 := ha.at_ u _ hu
  rw [results_cell_tmp hr, show a.tmps.getD t undef = .pointer (some ⟨b, 0, none⟩) by simp [Array.getD_eq_getD_getElem?, h1], show a.tmps.getD u undef = v by simp [Array.getD_eq_getD_getElem?, h2]]
  simp [asAddr, run_loadVar_row w b e ty cs fz td (hw.own_at _ hb) ht (by cases td <;> simp_all [aggT]) hs]
end
def segD (l : List Seg) (n : Nat) : Seg := l.getD n ⟨⟨#[]⟩, []⟩
def elsD (x : List (List ByteArray)) (e : Nat) : List ByteArray := x.getD e []
end Go.PK

/- Of the proofs of YtafannhhkfpbeaaGreatDoor; see NOTES.md. -/
/-! Invoices are read: the last segments; lines that can be written. -/
namespace Go.PK
open Go Go.RowKit
set_option linter.unusedVariables false
theorem RowT.any {α : Type} {T : Ty α} {D' : Nat → Prop} {w wx : World} {own : List (Nat × Obj)} {ro : List Snap} {e : TypeId} {r : RowS} {xs : List α} {v : Nat} (h : RowT T (fun _ => False) wx r xs) (hm : Mem w own ro) (hin : ∀ p ∈ rowO e r, p ∈ own) (hD : ∀ p ∈ rowO e r, D' p.1) (hv : v = xs.length) : sliceRd T D' w (rowV r v) xs :=
  RowT.rd (D := fun _ => False) (w := w) (h.keep (fun k hk _ => hk.elim)) hm hin (fun _ hx => hx.elim) hD hv
/-- A line whose numbers may be written. -/
def smallI (o : Ord) : Ord := ⟨1 + o.id % 999999999, 0, o.src % 1000000000, o.num % 1000000000, 1 + o.copies % 9999, o.price % 1000000000, 0, 0, 0⟩
end Go.PK

/- Of the proofs of YtafannhhkfpbeaaGreatDoor; see NOTES.md. -/
/-! The program's own segments of an invoice: what Split makes of their elements. -/
namespace Go.PK
open Go Go.RowKit
set_option linter.unusedVariables false
def esOk (L : List ByteArray) (T : List (List ByteArray)) : Prop := L.map splitC = T ∧ ∀ s ∈ L, s.size ≤ 100
end Go.PK

/- Of the proofs of YtafannhhkfpbeaaGreatDoor; see NOTES.md. -/
/-! The laws of the invoices: sizes, totals that are none, lines that are cut. -/
namespace Go.PK
open Go Go.RowKit
set_option linter.unusedVariables false
def cutP (ls : List Ord) (m : Nat) : List Ord := (ls.take (min ls.length m)).map smallI
end Go.PK

/- Of the proofs of YtafannhhkfpbeaaGreatDoor; see NOTES.md. -/
/-! A slice that a call has made, as cells; two lists of orders side by side. -/
namespace Go.PK
open Go Go.RowKit
set_option linter.unusedVariables false
end Go.PK

/- Of the proofs of YtafannhhkfpbeaaGreatDoor; see NOTES.md. -/
/-! 'copy' into a row of the call's own, and 'append(s, make(..)...)' where there is no room. -/
namespace Go.PK
open Go Go.RowKit
set_option linter.unusedVariables false
theorem run_copy_own {P : Program} (w : World) (dT sT ty elem : TypeId) (size : Nat) (g o dLen dCap : Nat) (a : Addr) (sLen sCap : Nat) (cur : Array Value) (t : TypeId) (cs : List Value)
    (hu : P.underlying dT = some (.slice elem)) (hs : (P.info? elem).map (·.size) = some size)
    (hg : w.heap[g]? = some (.cells cur t (0, 0))) (hn : cs.length = Nat.min sLen dLen * size)
    (hsrc : ∀ j v, cs[j]? = some v → w.cell? (a.add j) = some v) (hfit : o + cs.length ≤ cur.size) (h1 : ∀ v ∈ cs, v.oneCell' = true) :
    (Builtin.copy_ #[dT, sT] ty #[.slice (some ⟨g, o, none⟩) dLen dCap, .slice (some a) sLen sCap]).run P w =
      .ok (goInt (Nat.min sLen dLen)) (w.setRow g (cur.toList.take o ++ cs ++ cur.toList.drop (o + cs.length)).toArray) := by
  have hl := run_loadCells_list (P := P) w a cs hsrc
  have hst := run_storeCells_at P g o t cs 0 cur w hg (by simpa using hfit) h1
  cases hq : P.info? elem with
  | none => simp [hq] at hs
  | some i =>
    have hi : i.size = size := by simpa [hq] using hs
    have hn' : min sLen dLen * size = cs.length := hn.symm
    simp [Builtin.copy_, run_underlying hu, Builtin.lenOf, Builtin.firstCells, sizeOf, typeInfo, hq, hi, hn', hl, hst]
theorem Turned.row {w : World} {g : Nat} {cur row : Array Value} {t : TypeId} (hg : w.heap[g]? = some (.cells cur t (0, 0))) : Turned w (w.setRow g row) g (.cells row t (0, 0)) where
  os := rfl
  tape := rfl
  output := rfl
  size := by simp [World.setRow]
  at_ := setRow_heap w g cur row t _ hg
  other := fun k hk => by simp only [World.setRow]; rw [Array.getElem?_modify]; rw [if_neg (fun e => hk e.symm)]
section
variable {P : Program} {n : Nat} {l : List (Nat × Value)} {own : List (Nat × Obj)} {ro : List Snap} {lops : List Oper} {Q : Exit → Act → World → Prop} {K : Act → World → Prop}
  {rest : List (Option Bool × Nat)} {k : Option Bool} {i d : Nat} {op : Op} {ty : TypeId} {pos : String} {af : Array Edge} {x y z' : Operand} {t t1 t2 : TypeId}
/-- 'copy(d, s)', d in a row of the call's own. -/
theorem x_copy {e : TypeId} {size b o1 dl dc sb so sl sc m : Nat} {cs news : List Value} {te : TypeId} (l1 : List (Nat × Obj)) {l2 : List (Nat × Obj)} (ho : lops[i]? = some ⟨some d, .call ⟨.builtin .copy, #[x, y], #[t1, t2]⟩, ty, pos, af, none⟩) (hd : decide (d < n) = true)
    (hx : ev l x = some (.slice (some ⟨b, o1, none⟩) dl dc)) (hy : ev l y = some (.slice (some ⟨sb, so, none⟩) sl sc)) (hown : own = l1 ++ (b, .cells cs.toArray te (0, 0)) :: l2)
    (ht : P.underlying t1 = some (.slice e)) (hi : (P.info? e).map (·.size) = some size) (hmin : Nat.min sl dl = m)
    (hl : news.length = m * size) (hat : ∀ j (hj : j < news.length), At own ro sb (so + j) news[j]) (h1 : news.all (fun u => u.oneCell') = true) (hfit : o1 + news.length ≤ cs.length)
    (h : WX P lops.toArray Q K rest n ((d, .int .i64 (m : Nat)) :: l) (l1 ++ (b, .cells (cs.take o1 ++ news ++ cs.drop (o1 + news.length)).toArray te (0, 0)) :: l2) ro) : WX P lops.toArray Q K ((none, i) :: rest) n l own ro := by
  subst hmin
  intro a w ha hw
  have hd' : d < n := of_decide_eq_true hd
  have hw1 := go_none (lops := lops) (n := n) (l := l) (o := ⟨some d, .call ⟨.builtin .copy, #[x, y], #[t1, t2]⟩, ty, pos, af, none⟩) rfl a ha
  simp only [wpX, List.getElem?_toArray, ho]
  intro w' hl'
  rw [if_pos hw1]
  have hM := hw.later hl'
  have hnews : ∀ j u, news[j]? = some u → w'.cell? ((⟨sb, so, none⟩ : Addr).add j) = some u := fun j u hu => by
    obtain ⟨hj, rfl⟩ := List.getElem?_eq_some_iff.1 hu
    rw [mk_add]
    exact hat j hj w' hM
  have hb : w'.heap[b]? = some (.cells cs.toArray te (0, 0)) := hM.own_at (b, _) (by rw [hown]; simp)
  have hrun := run_copy_own (P := P) w' t1 t2 ty e size b o1 dl dc ⟨sb, so, none⟩ sl sc cs.toArray te news ht hi hb hl hnews (by simpa using hfit) (by simpa using h1)
  subst hown
  have hM2 := hM.turn (Turned.row (row := (cs.take o1 ++ news ++ cs.drop (o1 + news.length)).toArray) hb)
  unfold Oper.wp execOp
  simp only [resolve, invoke, builtin, Sem.run_bind, Sem.run_pure, Result.andThen_ok, List.map_toArray, List.map_cons, List.map_nil, ha.eval hx, ha.eval hy, hrun]
  exact h _ _ (ha.put _ hd') hM2
/-- A call that turns the caller's own blocks; what it hands back tells of what is new. -/
theorem x_turnV {τ : Type} {f : FuncId} {fn : Func} {xs : Array Operand} {tys : Array TypeId} {c : Operand} {vs : List Value} {fst cap : Array Value} (V : τ → Value) (R : τ → Prop) (O : τ → List (Nat × Obj)) (ho : lops[i]? = some ⟨some d, .call ⟨.value c, xs, tys⟩, ty, pos, af, none⟩) (hd : decide (d < n) = true)
    (hcal : ev l c = some (.func (.func f) fst cap)) (hf : P.funcs[f]? = some fn) (hbody : (!(fn.name == "runtime.NumGoroutine") && fn.body.isSome) = true) (hx : evs l xs.toList = some vs)
    (hc : ∀ w, Mem w own ro → Calls P f (fst ++ vs.toArray ++ cap) w fun e w' => ∃ x, e = .returned (V x) ∧ R x ∧ Mem w' (O x) ro)
    (h : ∀ x, R x → WX P lops.toArray Q K rest n ((d, V x) :: l) (O x) ro) : WX P lops.toArray Q K ((none, i) :: rest) n l own ro := by
  intro a w ha hw
  have hd' : d < n := of_decide_eq_true hd
  have hw1 := go_none (lops := lops) (n := n) (l := l) (o := ⟨some d, .call ⟨.value c, xs, tys⟩, ty, pos, af, none⟩) rfl a ha
  simp only [wpX, List.getElem?_toArray, ho]
  intro w' hl
  rw [if_pos hw1]
  unfold Oper.wp
  rw [run_callv rfl ha hcal hf hbody hx]
  refine Calls.mono (hc w' (hw.later hl)) fun e w2 he => ?_
  obtain ⟨x, rfl, hr, hm⟩ := he
  exact h x hr _ w2 (ha.put _ hd') hm
/-- 'append(s, make([]T, k)...)', and there is no room: a new row. -/
theorem x_append_zeros {e : TypeId} {z : Value} {size bytes m n0 c0 : Nat} {kq kn : IntKind} {A : Option Addr} {olds : List Value} (ho : lops[i]? = some ⟨some d, .call ⟨.builtin .append, #[x, y], #[t, t2]⟩, ty, pos, af, none⟩) (hd : decide (d < n) = true)
    (hx : ev l x = some (.slice A n0 c0)) (hy : ev l y = some (.int kq (m : Nat))) (hno : A = none → n0 = 0) (hm0 : 0 < m) (hroom : c0 < n0 + m)
    (holds : ∀ w, Mem w own ro → ∀ a, A = some a → ∀ j u, olds[j]? = some u → w.cell? (a.add j) = some u) (hlo : olds.length = n0 * size)
    (ht : P.underlying t = some (.slice e)) (htn : P.underlying t2 = some (.int kn)) (hi : (P.info? e).map (fun j => (j.zero, j.size, j.bytes)) = some (some z, size, bytes)) (hz : (decide (z.cells.size = size) && decide (0 < size)) = true)
    (hb1 : n0 + m ≤ maxLen) (hb2 : (n0 + m) * bytes ≤ 140737488355328)
    (h : ∀ (b : Nat) (cs : List Value) (cap : Nat), n0 + m ≤ cap → cap ≤ maxLen → cs.length = cap * size → cs.take (n0 * size) = olds → WX P lops.toArray Q K rest n ((d, .slice (some ⟨b, 0, none⟩) (n0 + m) cap) :: l) ((b, .cells cs.toArray e (0, 0)) :: own) ro) : WX P lops.toArray Q K ((none, i) :: rest) n l own ro := by
  intro a w ha hw
  have hd' : d < n := of_decide_eq_true hd
  have hw1 := go_none (lops := lops) (n := n) (l := l) (o := ⟨some d, .call ⟨.builtin .append, #[x, y], #[t, t2]⟩, ty, pos, af, none⟩) rfl a ha
  simp only [wpX, List.getElem?_toArray, ho]
  intro w' hl'
  rw [if_pos hw1]
  have hM := hw.later hl'
  obtain ⟨inf, hi1, hi2⟩ := Option.map_eq_some_iff.1 hi
  simp only [Prod.mk.injEq] at hi2
  obtain ⟨hiz, his, hib⟩ := hi2
  simp only [Bool.and_eq_true, decide_eq_true_eq] at hz
  subst his
  subst hib
  have hold : (Builtin.firstCells inf.size n0 (.slice A n0 c0)).run P w'.drew = .ok olds.toArray w'.drew := by
    cases A with
    | none =>
      obtain rfl := hno rfl
      obtain rfl : olds = [] := List.eq_nil_of_length_eq_zero (by rw [hlo, Nat.zero_mul])
      exact run_firstCells_none w'.drew inf.size 0 0 c0
    | some a0 => exact run_firstCells_some w'.drew inf.size n0 a0 n0 c0 olds hlo (by simpa using holds w' hM a0 rfl)
  have hmax : n0 + m ≤ 9223372036854775807 := by simp only [maxLen] at hb1; omega
  have hr := Lib.run_append_grow_zeros w' t t2 ty e inf z kq kn ht htn hi1 hiz A n0 c0 olds hold m hm0 hz.2 hroom (by omega) (by have := Nat.mul_le_mul_right inf.bytes (Nat.le_add_left m n0); omega) (growslice_fits hroom hb2)
  have hge := grownCap_ge w' (n0 + m) c0 e
  have hcm : grownCap w' (n0 + m) c0 e ≤ maxLen := grownCap_le_maxLen w' (n0 + m) c0 e hb1
  generalize grownCap w' (n0 + m) c0 e = cap at hr hge hcm
  have hM2 : Mem (w'.drew.alloc (.cells (olds.toArray ++ Builtin.zeroCells z.cells m ++ Builtin.zeroCells z.cells (cap - (n0 + m))) e)) ((w'.heap.size, .cells (olds ++ ((Builtin.zeroCells z.cells m ++ Builtin.zeroCells z.cells (cap - (n0 + m))).toList)).toArray e (0, 0)) :: own) ro := by
    have h3 := (hM.later (Later.drew w')).new (.cells (olds.toArray ++ Builtin.zeroCells z.cells m ++ Builtin.zeroCells z.cells (cap - (n0 + m))) e)
    have e1 : (olds ++ ((Builtin.zeroCells z.cells m ++ Builtin.zeroCells z.cells (cap - (n0 + m))).toList)).toArray = olds.toArray ++ Builtin.zeroCells z.cells m ++ Builtin.zeroCells z.cells (cap - (n0 + m)) := by
      apply Array.ext'
      simp
    rw [e1]
    exact h3
  unfold Oper.wp execOp
  simp only [resolve, invoke, builtin, Sem.run_bind, Sem.run_pure, Result.andThen_ok, List.map_toArray, List.map_cons, List.map_nil, ha.eval hx, ha.eval hy, hr]
  refine h w'.heap.size _ cap hge hcm ?_ ?_ _ _ (ha.put _ hd') hM2
  · simp only [List.length_append, Array.length_toList, Array.size_append, size_zeroCells, hz.1, hlo, ← Nat.add_mul]
    congr 1
    omega
  · rw [← hlo]; exact List.take_left
end
section
variable {P : Program} {n : Nat} {l : List (Nat × Value)} {own : List (Nat × Obj)} {ro : List Snap} {ty : TypeId} {x y : Operand} {t : TypeId}
theorem v_cap {e : TypeId} {A : Option Addr} {m c : Nat} (ht : P.underlying t = some (.slice e)) (hx : ev l x = some (.slice A m c)) : OpV P n l own ro (.call ⟨.builtin .cap, #[x], #[t]⟩) ty (.int .i64 c) := by
  intro a w o ha _ ho _
  simp [execOp, ho, resolve, invoke, builtin, ha.eval hx, Builtin.cap_, run_underlying ht, goInt]
/-- slices.overlaps, of two slices in two blocks of the call's own. -/
theorem v_overlaps {f : FuncId} {fn : Func} {tys : Array TypeId} {tR e te1 te2 : TypeId} {size na nb oa ob la ca lb cb : Nat} {ca1 cb1 : List Value}
    (hf : P.funcs[f]? = some fn) (hname : (fn.name == "runtime.NumGoroutine") = false) (hb : fn.body.isNone = true) (hn : Extern.findNext fn = none) (he : Extern.find fn = some (Extern.SlicesOverlaps.overlaps #[t, t] #[tR]))
    (ht : P.underlying t = some (.slice e)) (hi : (P.info? e).map (·.size) = some size)
    (hx : ev l x = some (.slice (some ⟨na, oa, none⟩) la ca)) (hy : ev l y = some (.slice (some ⟨nb, ob, none⟩) lb cb)) (h1 : (na, Obj.cells ca1.toArray te1 (0, 0)) ∈ own) (h2 : (nb, Obj.cells cb1.toArray te2 (0, 0)) ∈ own) (hne : ∀ w, Mem w own ro → na ≠ nb) (h0 : cb1.length ≠ 0) :
    OpV P n l own ro (.call ⟨.value (.func f), #[x, y], tys⟩) ty (.bool false) := by
  intro a w o ha hw ho _
  have hq : a.eval (.func f) = .func (.func f) #[] #[] := rfl
  have hA := hw.own_at _ h1
  have hB := hw.own_at _ h2
  have h4 := Lib.run_overlaps_apart (P := P) w t tR e ht size (fun w => run_sizeOf hi) ⟨na, oa, none⟩ ⟨nb, ob, none⟩ la ca lb cb (hne w hw) te1 te2 ca1.length cb1.length
    (by simp [World.shape?, hA]) (by simp [World.shape?, hB]) h0 (by simp [World.frozen?, hA]) (by simp [World.frozen?, hA])
  simp [execOp, ho, resolve, hq, ha.eval hx, ha.eval hy, Deferred.ofValue, invoke, run_callFunc_extern hf hname hb hn he]
  rw [h4]
  rfl
/-- 's[i:]', s with memory behind it. -/
theorem v_scut_fromB {e : TypeId} {len cap i m b o : Nat} {kk : IntKind} (ht : P.underlying t = some (.slice e)) (hs : (P.info? e).map (·.size) = some m) (hx : ev l x = some (.slice (some ⟨b, o, none⟩) len cap)) (hy : ev l y = some (.int kk (i : Nat))) (hi : i ≤ len) (hc : len ≤ cap) (hlt : i < cap) :
    OpV P n l own ro (.slice t x (some y) none none) ty (.slice (some ⟨b, o + i * m, none⟩) (len - i) (cap - i)) := by
  have h := v_scut_from (n := n) (own := own) (ro := ro) (ty := ty) ht hs hx hy hi hc
  rw [if_neg (by omega), Option.map_some, mk_add] at h
  exact h
end
end Go.PK

/- Of the proofs of YtafannhhkfpbeaaGreatDoor; see NOTES.md. -/
/-! A region that draws its order, where several operations that make memory may come up: the orders are a tree. -/
namespace Go.PK
open Go Go.RowKit
set_option linter.unusedVariables false
inductive Pl where
  | done
  | flt (i : Nat) (t : Pl)
  | gr (i : Nat) (t e : Pl)
  | nil
def Pl.heads : Pl → List Nat
  | .gr i _ e => i :: e.heads
  | _ => []
section
variable {P : Program} {ops : Array Oper} {md : Region.Mode}
def wpT (P : Program) (ops : Array Oper) (K : Act → World → Prop) : Pl → Act → World → Prop
  | .done, a, w => K a w
  | .flt i t, a, w => match ops[i]? with
    | none => False
    | some o => if Region.wanted o (yielded ops a.tmps) then flt P o a w (fun a' => wpT P ops K t a' w) else wpT P ops K t (a.put o.dst undef) w
  | .gr i t e, a, w => (match ops[i]? with
    | none => False
    | some o => if Region.wanted o (yielded ops a.tmps) then grw P o a w (wpT P ops K t) else wpT P ops K t (a.put o.dst undef) w) ∧ wpT P ops K e a w
  | .nil, _, _ => True
def treeB (md : Region.Mode) (ops : Array Oper) (n : Nat) : Bool → Nat → Pl → Array Bool → Bool
  | alt, f, .done, listed => !alt && decide (f = 0) && Region.seqB md ops (ops.size - n) n listed
  | alt, f, .flt i t, listed => !alt && decide (0 < f) && decide (i < n) && (Region.ready md ops listed).contains i && Region.free md ops listed i && treeB md ops n false (f - 1) t (listed.setIfInBounds i true)
  | alt, f, .gr i t e, listed => (alt || ((Region.ready md ops listed).all (fun j => ((Pl.gr i t e).heads).contains j) && !(Region.ready md ops listed).isEmpty)) && decide (0 < f) && decide (i < n) && treeB md ops n false (f - 1) t (listed.setIfInBounds i true) && treeB md ops n true f e listed
  | alt, _, .nil, _ => alt
theorem wpAnyC_tree {n : Nat} {Q : Act → World → Prop} (hQ : ∀ a w w', Later w w' → Q a w → Q a w') (hsel : Region.noSelect ops = true)
    (hnt : ∀ i, i < n → ∀ listed, HeadInv md ops n listed → listed.getD i true = false → ∀ j ∈ Region.ready md ops listed, j < n) :
    ∀ (t : Pl) (f : Nat) (listed : Array Bool) (a : Act) (w : World), HeadInv md ops n listed →
      (treeB md ops n false f t listed = true → wpT P ops Q t a w → wpAnyC P md ops n (fun listed' a' w' => Region.seqB md ops (ops.size - n) n listed' = true ∧ Q a' w') f listed a w) ∧
      (treeB md ops n true f t listed = true → wpT P ops Q t a w → ∀ j ∈ t.heads, j ∈ Region.ready md ops listed → 0 < f ∧ j < n ∧ canOp P ops j (wpAnyC P md ops n (fun listed' a' w' => Region.seqB md ops (ops.size - n) n listed' = true ∧ Q a' w') (f - 1) (listed.setIfInBounds j true)) a w)
  | .done, f, listed, a, w, _ => ⟨fun hB h => by
      simp only [treeB, Bool.and_eq_true, decide_eq_true_eq] at hB
      obtain ⟨⟨_, rfl⟩, hB⟩ := hB
      exact ⟨hB, h⟩, fun hB => by simp [treeB] at hB⟩
  | .flt i t, f, listed, a, w, inv => ⟨fun hB h => by
      simp only [treeB, Bool.and_eq_true, decide_eq_true_eq] at hB
      obtain ⟨⟨⟨⟨⟨_, hf⟩, hin⟩, hr⟩, hfr⟩, hB'⟩ := hB
      obtain ⟨g, rfl⟩ : ∃ g, f = g + 1 := ⟨f - 1, by omega⟩
      have hr' : i ∈ Region.ready md ops listed := by simpa using hr
      unfold wpT at h
      cases ho : ops[i]? with
      | none => simp only [ho] at h
      | some o =>
        simp only [ho] at h
        obtain ⟨v, hy, hK⟩ : ∃ v, YieldsC P ops o v a w ∧ wpT P ops Q t (a.put o.dst v) w := by
          by_cases hw : Region.wanted o (yielded ops a.tmps) = true
          · rw [if_pos hw] at h
            obtain ⟨v, h1, h2⟩ := h
            exact ⟨v, .inl ⟨hw, h1⟩, h2⟩
          · rw [if_neg hw] at h
            exact ⟨undef, .inr ⟨by simpa using hw, rfl⟩, h⟩
        exact wpAnyC_first (fun _ _ _ _ hw hq => ⟨hq.1, hQ _ _ _ hw hq.2⟩) ho (Region.noSelect_spec hsel) (hnt i hin) (fun _ _ _ hL => seqB_ready hL.1) hin g listed a w inv (Region.free_spec ho hfr) hr' hy
          ((wpAnyC_tree hQ hsel hnt t g _ _ _ (inv.set hr' hin)).1 (by simpa using hB') hK), fun hB => by simp [treeB] at hB⟩
  | .gr i t e, f, listed, a, w, inv => by
      have alt : ∀ alt, treeB md ops n alt f (.gr i t e) listed = true → wpT P ops Q (.gr i t e) a w → ∀ j ∈ (Pl.gr i t e).heads, j ∈ Region.ready md ops listed → 0 < f ∧ j < n ∧ canOp P ops j (wpAnyC P md ops n (fun listed' a' w' => Region.seqB md ops (ops.size - n) n listed' = true ∧ Q a' w') (f - 1) (listed.setIfInBounds j true)) a w := by
        intro alt hB h j hj hjr
        simp only [treeB, Bool.and_eq_true, decide_eq_true_eq] at hB
        obtain ⟨⟨⟨⟨_, hf⟩, hin⟩, hB1⟩, hB2⟩ := hB
        unfold wpT at h
        obtain ⟨h1, h2⟩ := h
        simp only [Pl.heads, List.mem_cons] at hj
        by_cases hji : j = i
        · subst hji
          refine ⟨hf, hin, fun w' hw' => ?_⟩
          cases ho : ops[j]? with
          | none => simp only [ho] at h1
          | some o =>
            simp only [ho] at h1
            unfold wpOp
            simp only [ho]
            by_cases hw : Region.wanted o (yielded ops a.tmps) = true
            · rw [if_pos hw] at h1 ⊢
              exact .inl (Oper.wp_mono (fun a' w2 hk => ⟨hk.1, (wpAnyC_tree hQ hsel hnt t _ _ _ _ (inv.set hjr hin)).1 hB1 hk.2⟩) (h1 w' hw'))
            · rw [if_neg hw] at h1 ⊢
              exact ⟨Later.refl _, wpAnyC_later (fun _ _ _ _ hw hq => ⟨hq.1, hQ _ _ _ hw hq.2⟩) _ _ _ _ _ hw' ((wpAnyC_tree hQ hsel hnt t _ _ _ _ (inv.set hjr hin)).1 hB1 h1)⟩
        · have hj' : j ∈ e.heads := by rcases hj with h | h; exact absurd h hji; exact h
          exact (wpAnyC_tree hQ hsel hnt e f listed a w inv).2 hB2 h2 j hj' hjr
      refine ⟨fun hB h => ?_, alt true⟩
      have hB0 := hB
      simp only [treeB, Bool.and_eq_true, decide_eq_true_eq, Bool.false_or] at hB
      obtain ⟨⟨⟨⟨⟨hall, hne⟩, hf⟩, _⟩, _⟩, _⟩ := hB
      obtain ⟨g, rfl⟩ : ∃ g, f = g + 1 := ⟨f - 1, by omega⟩
      refine ⟨fun h0 => by rw [h0] at hne; simp at hne, fun j hj => ?_⟩
      have hjh : j ∈ (Pl.gr i t e).heads := by simpa using List.all_eq_true.1 hall j hj
      exact (alt false hB0 h j hjh hj).2
  | .nil, f, listed, a, w, _ => ⟨fun hB => by simp [treeB] at hB, fun _ _ j hj => by simp [Pl.heads] at hj⟩
theorem wp_region_tree {id : Nat} {Q : Exit → Act → World → Prop} {a : Act} {w : World} {l : List Oper} (n : Nat) (t : Pl) (hm : P.follows .mixedOrders = true)
    (hB : (Region.noSelect l.toArray && (decide (n = l.toArray.size) || (decide (n < l.toArray.size) && Region.sinkB .any l.toArray n && Region.chainB .any l.toArray n)) && treeB .any l.toArray n false n t (Array.replicate l.toArray.size false)) = true)
    (h : wpT P l.toArray (fun a' w' => ∀ w'', Later w' w'' → wpList P l.toArray Q (l.drop n) a' w'') t a w) : (Code.region id l.toArray true).wp P Q a w := by
  simp only [Bool.and_eq_true] at hB
  obtain ⟨⟨hsel, hn⟩, hpl⟩ := hB
  have hnle : n ≤ l.toArray.size := by
    rcases Bool.or_eq_true _ _ ▸ hn with hn | hn
    · simp only [decide_eq_true_eq] at hn; omega
    · simp only [Bool.and_eq_true, decide_eq_true_eq] at hn; omega
  have hnt : ∀ i, i < n → ∀ listed, HeadInv .any l.toArray n listed → listed.getD i true = false → ∀ j ∈ Region.ready .any l.toArray listed, j < n := by
    intro i hin listed inv hun j hj
    rcases Bool.or_eq_true _ _ ▸ hn with hn | hn
    · simp only [decide_eq_true_eq] at hn
      have := ready_lt j hj
      omega
    · simp only [Bool.and_eq_true, decide_eq_true_eq] at hn
      obtain ⟨⟨hn, hs⟩, hc⟩ := hn
      rcases Nat.lt_or_ge j n with h | h
      · exact h
      · exact absurd hj (tail_waits hs hc hn inv _ i rfl hin hun j h)
  have inv0 : HeadInv .any l.toArray n (Array.replicate l.toArray.size false) :=
    ⟨by simp, fun j oj _ hl => (by rw [getD_replicate_false] at hl; cases hl), fun t _ ht => getD_in (by simpa using ht) (getD_replicate_false _ _)⟩
  have H := (wpAnyC_tree (P := P) (md := .any) (Q := fun a' w' => ∀ w'', Later w' w'' → wpList P l.toArray Q (l.drop n) a' w'') (fun a w w' hw hq w'' hw'' => hq w'' (hw.trans hw'')) hsel hnt t n _ a w inv0).1 hpl h
  refine wp_region_any hm ?_
  have hdl : (l.drop n).length = l.toArray.size - n := by simp
  have := wpAny_of_can (Q' := Q) (g := l.toArray.size - n) (fun listed a' w' hL => by
    have := wpAny_of_seq (md := .any) (Q' := Q) (l.drop n) n listed a' w' (fun j => by simp [List.getElem?_drop]) (by rw [hdl]; exact hL.1) (hL.2 w' (Later.refl _))
    rwa [hdl] at this) _ _ _ _ (wpAnyC_later (fun _ _ _ _ hw hq => ⟨hq.1, fun w2 h2 => hq.2 w2 (hw.trans h2)⟩) _ _ _ _ _ (Later.drew w) H)
  rw [show n + (l.toArray.size - n) = l.toArray.size by omega] at this
  exact this
end
section
variable {P : Program} {n : Nat} {l : List (Nat × Value)} {own : List (Nat × Obj)} {ro : List Snap}
theorem rg_tree {id : Nat} {Q : Exit → Act → World → Prop} {lops : List Oper} (m : Nat) (t : Pl) (hm : P.follows .mixedOrders = true)
    (hB : (Region.noSelect lops.toArray && (decide (m = lops.toArray.size) || (decide (m < lops.toArray.size) && Region.sinkB .any lops.toArray m && Region.chainB .any lops.toArray m)) && treeB .any lops.toArray m false m t (Array.replicate lops.toArray.size false)) = true)
    (h : S (wpT P lops.toArray (fun a' w' => ∀ w'', Later w' w'' → wpList P lops.toArray Q (lops.drop m) a' w'') t) n l own ro) : W P (.region id lops.toArray true) Q n l own ro :=
  fun a w ha hw => wp_region_tree m t hm hB (h a w ha hw)
variable {ops : Array Oper} {Q : Exit → Act → World → Prop} {K : Act → World → Prop} {i : Nat} {t e : Pl}
theorem t_flt (h : WX P ops Q (wpT P ops K t) [(some true, i)] n l own ro) : S (wpT P ops K (.flt i t)) n l own ro := fun a w ha hw => by
  have h := h a w ha hw
  unfold wpT
  simp only [wpX] at h
  split <;> rename_i ho <;> simp only [ho] at h
  split <;> rename_i hw'
  · rw [if_pos hw'] at h
    obtain ⟨v, h1, h2⟩ := h
    exact ⟨v, h1, h2 w (Later.refl _)⟩
  · rw [if_neg hw'] at h
    exact h w (Later.refl _)
theorem t_gr (h : WX P ops Q (wpT P ops K t) [(some false, i)] n l own ro) (he : S (wpT P ops K e) n l own ro) : S (wpT P ops K (.gr i t e)) n l own ro := fun a w ha hw => by
  have h := h a w ha hw
  unfold wpT
  refine ⟨?_, he a w ha hw⟩
  simp only [wpX] at h
  split <;> rename_i ho <;> simp only [ho] at h
  split <;> rename_i hw'
  · rw [if_pos hw'] at h
    exact fun w2 h2 => Oper.wp_mono (fun a' w' hk => ⟨hk.1, hk.2 w' (Later.refl _)⟩) (h w2 h2)
  · rw [if_neg hw'] at h
    exact h w (Later.refl _)
theorem t_nil : S (wpT P ops K .nil) n l own ro := fun _ _ _ _ => trivial
theorem t_done {lops : List Oper} {m : Nat} (h : WX P lops.toArray Q (fun a w => Q .normal a w) (tailFrom m lops.length) n l own ro) :
    S (wpT P lops.toArray (fun a' w' => ∀ w'', Later w' w'' → wpList P lops.toArray Q (lops.drop m) a' w'') .done) n l own ro :=
  fun a w ha hw w2 h2 => wpList_of_X _ m a w2 rfl (wpX_later h2 (h a w ha hw))
end
end Go.PK

/- Of the proofs of YtafannhhkfpbeaaGreatDoor; see NOTES.md. -/
/-! As PkTree, but what a region has made may turn again within it: all is said of the world at the region's start. -/
namespace Go.PK
open Go Go.RowKit
set_option linter.unusedVariables false
section
variable {P : Program} {ops : Array Oper} {md : Region.Mode} {w0 : World}
def canOp0 (P : Program) (ops : Array Oper) (w0 : World) (i : Nat) (K : Act → World → Prop) (a : Act) (w : World) : Prop :=
  ∀ w', Later w w' → Later w0 w' → wpOp P ops (fun _ _ _ => False) i (fun a'' w'' => Later w0 w'' ∧ K a'' w'') a w'
def wpAny0 (P : Program) (md : Region.Mode) (ops : Array Oper) (w0 : World) (n : Nat) (L : Array Bool → Act → World → Prop) : Nat → Array Bool → Act → World → Prop
  | 0, listed, a, w => L listed a w
  | f + 1, listed, a, w => Region.ready md ops listed ≠ [] ∧ ∀ i ∈ Region.ready md ops listed, i < n ∧ canOp0 P ops w0 i (wpAny0 P md ops w0 n L f (listed.setIfInBounds i true)) a w
def Yields0 (P : Program) (ops : Array Oper) (w0 : World) (o : Oper) (v : Value) (a : Act) : Prop :=
  (Region.wanted o (yielded ops a.tmps) = true ∧ ∀ w', Later w0 w' → fltAt P o a w' v) ∨ (Region.wanted o (yielded ops a.tmps) = false ∧ v = undef)
theorem Yields0.of_same {o : Oper} {v : Value} {a a' : Act} (hy : Yields0 P ops w0 o v a) (he : execOp a'.eval o = execOp a.eval o)
    (hw : Region.wanted o (yielded ops a'.tmps) = Region.wanted o (yielded ops a.tmps)) : Yields0 P ops w0 o v a' := by
  unfold Yields0 fltAt at *
  rw [he, hw]
  exact hy
theorem Yields0.canOp {i : Nat} {o : Oper} {v : Value} {a : Act} {w : World} (hi : ops[i]? = some o) (hy : Yields0 P ops w0 o v a) {K : Act → World → Prop}
    (h : ∀ w', Later w w' → K (a.put o.dst v) w') : canOp0 P ops w0 i K a w := by
  intro w' hw' h0
  unfold Go.wpOp
  simp only [hi]
  rcases hy with ⟨hw, hv⟩ | ⟨hw, rfl⟩
  · rw [if_pos hw]
    refine .inl ?_
    have h3 := hv w' h0
    unfold fltAt at h3
    unfold Oper.wp
    generalize (execOp a.eval o).run P w' = r at *
    cases r with
    | ok n w1 =>
      cases n <;> simp only [fltUpon] at h3 <;> simp only [Oper.upon]
      case value u => obtain ⟨rfl, rfl⟩ := h3; exact ⟨h0, h _ hw'⟩
      case skip => obtain ⟨rfl, rfl⟩ := h3; exact ⟨h0, h _ hw'⟩
      case enter f args =>
        obtain ⟨rfl, hc⟩ := h3
        exact hc.mono fun e w2 ⟨he, hl⟩ => by subst he; exact ⟨h0.trans hl, h _ (hw'.trans hl)⟩
    | halt x w1 => simp only [fltUpon] at h3
  · rw [if_neg (by rw [hw]; exact Bool.false_ne_true)]
    exact ⟨h0, h _ hw'⟩
def wpB (P : Program) (ops : Array Oper) (w0 : World) (K : Act → World → Prop) : Pl → Act → World → Prop
  | .done, a, w => K a w
  | .flt i t, a, w => match ops[i]? with
    | none => False
    | some o => if Region.wanted o (yielded ops a.tmps) then ∃ v, (∀ w', Later w0 w' → fltAt P o a w' v) ∧ wpB P ops w0 K t (a.put o.dst v) w else wpB P ops w0 K t (a.put o.dst undef) w
  | .gr i t e, a, w => (match ops[i]? with
    | none => False
    | some o => if Region.wanted o (yielded ops a.tmps) then ∀ w', Later w w' → o.wp P a w' (fun a'' w'' => Later w0 w'' ∧ wpB P ops w0 K t a'' w'') (fun _ _ _ => False) else wpB P ops w0 K t (a.put o.dst undef) w) ∧ wpB P ops w0 K e a w
  | .nil, _, _ => True
end
section
variable {P : Program} {n : Nat} {l : List (Nat × Value)} {own : List (Nat × Obj)} {ro : List Snap}
theorem Mem.frozen {w : World} (h : Mem w own ro) : Mem w [] ((w, fun _ => True) :: ro) where
  own_at := fun p hp => by cases hp
  own_nd := by simp
  ro_st := fun s hs => by
    rcases List.mem_cons.1 hs with rfl | hs
    · exact ⟨rfl, rfl, rfl, Nat.le_refl _⟩
    · exact h.ro_st s hs
  ro_at := fun s hs k hk hlt => by
    rcases List.mem_cons.1 hs with rfl | hs
    · rfl
    · exact h.ro_at s hs k hk hlt
  apart := fun p hp => by cases hp
variable {ops : Array Oper} {Q : Exit → Act → World → Prop} {K : Act → World → Prop} {i : Nat} {t e : Pl} {w0 : World}
end
end Go.PK

/- Of the proofs of YtafannhhkfpbeaaGreatDoor; see NOTES.md. -/
/-! As PkTree2, over worlds that keep an invariant: blocks that the region turns are left out of it. -/
namespace Go.PK
open Go Go.RowKit
set_option linter.unusedVariables false
section
variable {P : Program} {ops : Array Oper} {md : Region.Mode} {oF : List (Nat × Obj)} {rF : List Snap}
def canOpJ (P : Program) (ops : Array Oper) (oF : List (Nat × Obj)) (rF : List Snap) (i : Nat) (K : Act → World → Prop) (a : Act) (w : World) : Prop :=
  ∀ w', Later w w' → Mem w' oF rF → wpOp P ops (fun _ _ _ => False) i (fun a'' w'' => Mem w'' oF rF ∧ K a'' w'') a w'
theorem canOpJ_mono {i : Nat} {a : Act} {w : World} {K K' : Act → World → Prop} (h : ∀ a w, K a w → K' a w) (hh : canOpJ P ops oF rF i K a w) : canOpJ P ops oF rF i K' a w :=
  fun w' hw h0 => wpOp_mono (fun _ _ hk => ⟨hk.1, h _ _ hk.2⟩) (hh w' hw h0)
theorem canOpJ_later {i : Nat} {a : Act} {w w1 : World} {K : Act → World → Prop} (hw : Later w w1) (hh : canOpJ P ops oF rF i K a w) : canOpJ P ops oF rF i K a w1 :=
  fun w' hw' h0 => hh w' (hw.trans hw') h0
def wpAnyJ (P : Program) (md : Region.Mode) (ops : Array Oper) (oF : List (Nat × Obj)) (rF : List Snap) (n : Nat) (L : Array Bool → Act → World → Prop) : Nat → Array Bool → Act → World → Prop
  | 0, listed, a, w => L listed a w
  | f + 1, listed, a, w => Region.ready md ops listed ≠ [] ∧ ∀ i ∈ Region.ready md ops listed, i < n ∧ canOpJ P ops oF rF i (wpAnyJ P md ops oF rF n L f (listed.setIfInBounds i true)) a w
theorem wpAnyJ_later {n : Nat} {L : Array Bool → Act → World → Prop} (hL : LaterClosed L) : ∀ (f : Nat) (listed : Array Bool) (a : Act) (w w' : World), Later w w' →
    wpAnyJ P md ops oF rF n L f listed a w → wpAnyJ P md ops oF rF n L f listed a w'
  | 0, _, _, _, _, h, hh => hL _ _ _ _ h hh
  | _ + 1, _, _, _, _, h, hh => ⟨hh.1, fun i hi => ⟨(hh.2 i hi).1, canOpJ_later h (hh.2 i hi).2⟩⟩
theorem wpAny_of_canJ {n g : Nat} {L : Array Bool → Act → World → Prop} {Q' : Exit → Act → World → Prop} (hL : ∀ listed a w, Mem w oF rF → L listed a w → wpAny P md ops Q' g listed a w) :
    ∀ (f : Nat) (listed : Array Bool) (a : Act) (w : World), Mem w oF rF → wpAnyJ P md ops oF rF n L f listed a w → wpAny P md ops Q' (f + g) listed a w
  | 0, listed, a, w, h0, h => by rw [Nat.zero_add]; exact hL _ _ _ h0 h
  | f + 1, listed, a, w, h0, h => by
    rw [show f + 1 + g = (f + g) + 1 by omega]
    refine ⟨fun he => absurd he h.1, fun i hi => ?_⟩
    have h1 := (h.2 i hi).2 w (Later.refl w) h0
    have h2 : wpOp P ops (fun _ _ _ => False) i (wpAny P md ops Q' (f + g) (listed.setIfInBounds i true)) a w :=
      wpOp_mono (fun a' w' h' => wpAny_of_canJ hL f _ a' w' h'.1 h'.2) h1
    unfold wpOp at h2 ⊢
    split
    · rename_i ho; simp only [ho] at h2; exact h2
    · rename_i o ho
      simp only [ho] at h2
      split
      · rename_i hw
        simp only [hw, if_true] at h2
        rcases h2 with h2 | ⟨_, _, _, h2⟩
        · refine .inl ?_
          unfold Oper.wp at h2 ⊢
          generalize (execOp a.eval o).run P w = r at *
          cases r with
          | ok x w' =>
            cases x <;> simp only [Oper.upon] at h2 ⊢ <;> first
              | exact h2
              | (refine Calls.mono h2 fun e w'' he => ?_
                 cases e with
                 | returned u => exact he
                 | panicked c => exact he.elim
                 | outgrown => obtain ⟨_, _, hf⟩ := he; exact hf.elim)
          | halt x w' => cases x <;> simp only [Oper.upon] at h2 ⊢
        · exact h2.elim
      · rename_i hw
        simp only [hw] at h2
        exact h2
def YieldsJ (P : Program) (ops : Array Oper) (oF : List (Nat × Obj)) (rF : List Snap) (o : Oper) (v : Value) (a : Act) : Prop :=
  (Region.wanted o (yielded ops a.tmps) = true ∧ ∀ w', Mem w' oF rF → fltAt P o a w' v) ∨ (Region.wanted o (yielded ops a.tmps) = false ∧ v = undef)
theorem YieldsJ.of_same {o : Oper} {v : Value} {a a' : Act} (hy : YieldsJ P ops oF rF o v a) (he : execOp a'.eval o = execOp a.eval o)
    (hw : Region.wanted o (yielded ops a'.tmps) = Region.wanted o (yielded ops a.tmps)) : YieldsJ P ops oF rF o v a' := by
  unfold YieldsJ fltAt at *
  rw [he, hw]
  exact hy
theorem YieldsJ.canOp {i : Nat} {o : Oper} {v : Value} {a : Act} {w : World} (hi : ops[i]? = some o) (hy : YieldsJ P ops oF rF o v a) {K : Act → World → Prop}
    (h : ∀ w', Later w w' → K (a.put o.dst v) w') : canOpJ P ops oF rF i K a w := by
  intro w' hw' h0
  unfold Go.wpOp
  simp only [hi]
  rcases hy with ⟨hw, hv⟩ | ⟨hw, rfl⟩
  · rw [if_pos hw]
    refine .inl ?_
    have h3 := hv w' h0
    unfold fltAt at h3
    unfold Oper.wp
    generalize (execOp a.eval o).run P w' = r at *
    cases r with
    | ok n w1 =>
      cases n <;> simp only [fltUpon] at h3 <;> simp only [Oper.upon]
      case value u => obtain ⟨rfl, rfl⟩ := h3; exact ⟨h0, h _ hw'⟩
      case skip => obtain ⟨rfl, rfl⟩ := h3; exact ⟨h0, h _ hw'⟩
      case enter f args =>
        obtain ⟨rfl, hc⟩ := h3
        exact hc.mono fun e w2 ⟨he, hl⟩ => by subst he; exact ⟨Mem.later h0 hl, h _ (hw'.trans hl)⟩
    | halt x w1 => simp only [fltUpon] at h3
  · rw [if_neg (by rw [hw]; exact Bool.false_ne_true)]
    exact ⟨h0, h _ hw'⟩
theorem canOp_putJ {j : Nat} {oi oj : Oper} {v : Value} (hj : ops[j]? = some oj) (hap : oi.apart ops oj = true)
    (hsi : ∀ cs b, oi.op ≠ .select cs b) (hsj : ∀ cs b, oj.op ≠ .select cs b) {K : Act → World → Prop} {a : Act} {w : World}
    (hy : YieldsJ P ops oF rF oi v a) (h : canOpJ P ops oF rF j K (a.put oi.dst v) w) :
    canOpJ P ops oF rF j (fun a' w' => YieldsJ P ops oF rF oi v a' ∧ K (a'.put oi.dst v) w') a w := by
  obtain ⟨h1, h2, h3⟩ := Oper.apart_spec hap
  intro w' hw' h0
  have keep : ∀ (a : Act), YieldsJ P ops oF rF oi v a → ∀ u, YieldsJ P ops oF rF oi v (a.put oj.dst u) := fun a hy u =>
    hy.of_same (execOp_put oi hsi a oj.dst u h3) (wanted_put oi a oj.dst u h3)
  have keepD : ∀ d, YieldsJ P ops oF rF oi v { a with defers := d :: a.defers } := fun d => hy.of_same rfl rfl
  have h := h w' hw' h0
  unfold Go.wpOp at *
  simp only [hj] at *
  rw [wanted_put oj a oi.dst v h1] at h
  split
  · rename_i hw
    simp only [hw, if_true] at h
    rcases h with h | ⟨hasks, _, _, hlets⟩
    case inr => exact hlets.elim
    refine .inl ?_
    unfold Oper.wp at *
    rw [execOp_put oj hsj a oi.dst v h1] at h
    generalize (execOp a.eval oj).run P w' = r at *
    cases r with
    | ok n w1 =>
      cases n <;> simp only [Oper.upon] at h ⊢
      case value u => exact ⟨h.1, keep a hy u, by rw [← Act.put_comm a v u h2]; exact h.2⟩
      case skip => exact ⟨h.1, keep a hy _, by rw [← Act.put_comm a v undef h2]; exact h.2⟩
      case defer d =>
        refine ⟨h.1, keep _ (keepD d) _, ?_⟩
        rw [← Act.put_comm _ v undef h2, ← Act.put_defers]
        exact h.2
      case enter f args =>
        refine Calls.mono h fun e w2 he => ?_
        cases e with
        | returned u => exact ⟨he.1, keep a hy u, by rw [← Act.put_comm a v u h2]; exact he.2⟩
        | panicked c => exact he
        | outgrown => exact he
      case row row args => exact Rows.mono h fun u w2 he => ⟨he.1, keep a hy u, by rw [← Act.put_comm a v u h2]; exact he.2⟩
    | halt x w1 =>
      cases x <;> simp only [Oper.upon] at h ⊢
  · rename_i hw
    simp only [hw] at h
    exact ⟨h.1, keep a hy _, by rw [← Act.put_comm a v undef h2]; exact h.2⟩
theorem wpAnyJ_first {n i : Nat} {oi : Oper} {v : Value} {L : Array Bool → Act → World → Prop} (hL : LaterClosed L) (hi : ops[i]? = some oi) (hsel : ∀ (j : Nat) (o : Oper) cs b, ops[j]? = some o → o.op ≠ .select cs b)
    (hnt : ∀ listed, HeadInv md ops n listed → listed.getD i true = false → ∀ j ∈ Region.ready md ops listed, j < n)
    (hdone : ∀ listed a w, L listed a w → ∀ j ∈ Region.ready md ops listed, n ≤ j) (hin : i < n) :
    ∀ (f : Nat) (listed : Array Bool) (a : Act) (w : World), HeadInv md ops n listed →
      (∀ j oj, ops[j]? = some oj → j ≠ i → listed.getD j true = false → (∀ e ∈ oj.after, Region.binds md e = true → e.on ≠ i) → oi.apart ops oj = true) →
      i ∈ Region.ready md ops listed → YieldsJ P ops oF rF oi v a →
      wpAnyJ P md ops oF rF n L f (listed.setIfInBounds i true) (a.put oi.dst v) w → wpAnyJ P md ops oF rF n L (f + 1) listed a w := by
  intro f
  induction f with
  | zero =>
    intro listed a w inv _ hr hy H
    have hun := (mem_ready.1 hr).1
    refine ⟨fun h => (by rw [h] at hr; cases hr), fun j hj => ?_⟩
    have hjn := hnt listed inv hun j hj
    refine ⟨hjn, ?_⟩
    by_cases hji : j = i
    · subst hji; exact hy.canOp hi fun w' hw' => hL _ _ _ _ hw' H
    · have := hdone _ _ _ H j (ready_mono hj hji)
      omega
  | succ f ih =>
    intro listed a w inv hfree hr hy H
    have hun := (mem_ready.1 hr).1
    refine ⟨fun h => (by rw [h] at hr; cases hr), fun j hj => ?_⟩
    have hjn := hnt listed inv hun j hj
    refine ⟨hjn, ?_⟩
    by_cases hji : j = i
    · subst hji; exact hy.canOp hi fun w' hw' => wpAnyJ_later hL _ _ _ _ _ hw' H
    · have h1 := (H.2 j (ready_mono hj hji)).2
      obtain ⟨hjun, oj, hoj, hall⟩ := mem_ready.1 hj
      have hnot : ∀ e ∈ oj.after, Region.binds md e = true → e.on ≠ i := fun e he hb heq => by
        have h1 := hall e he hb
        rw [heq, getD_both hun] at h1
        cases h1
      have h2 := canOp_putJ hoj (hfree j oj hoj hji hjun hnot) (fun cs b => hsel i oi cs b hi) (fun cs b => hsel j oj cs b hoj) hy h1
      have hfree' : ∀ k ok, ops[k]? = some ok → k ≠ i → (listed.setIfInBounds j true).getD k true = false →
          (∀ e ∈ ok.after, Region.binds md e = true → e.on ≠ i) → oi.apart ops ok = true := fun k ok hk hki hun hno => by
        refine hfree k ok hk hki ?_ hno
        by_cases hjk : j = k
        · subst hjk; exact hjun
        · rw [getD_set_ne true hjk] at hun; exact hun
      refine canOpJ_mono (fun a' w' h3 => ih (listed.setIfInBounds j true) a' w' (inv.set hj hjn) hfree' (ready_mono hr (Ne.symm hji)) h3.1 ?_) h2
      rw [Array.setIfInBounds_comm _ _ hji]
      exact h3.2
def wpJ (P : Program) (ops : Array Oper) (oF : List (Nat × Obj)) (rF : List Snap) (K : Act → World → Prop) : Pl → Act → World → Prop
  | .done, a, w => K a w
  | .flt i t, a, w => match ops[i]? with
    | none => False
    | some o => if Region.wanted o (yielded ops a.tmps) then ∃ v, (∀ w', Mem w' oF rF → fltAt P o a w' v) ∧ wpJ P ops oF rF K t (a.put o.dst v) w else wpJ P ops oF rF K t (a.put o.dst undef) w
  | .gr i t e, a, w => (match ops[i]? with
    | none => False
    | some o => if Region.wanted o (yielded ops a.tmps) then ∀ w', Later w w' → o.wp P a w' (fun a'' w'' => Mem w'' oF rF ∧ wpJ P ops oF rF K t a'' w'') (fun _ _ _ => False) else wpJ P ops oF rF K t (a.put o.dst undef) w) ∧ wpJ P ops oF rF K e a w
  | .nil, _, _ => True
theorem wpAnyJ_tree {n : Nat} {Q : Act → World → Prop} (hQ : ∀ a w w', Later w w' → Q a w → Q a w') (hsel : Region.noSelect ops = true)
    (hnt : ∀ i, i < n → ∀ listed, HeadInv md ops n listed → listed.getD i true = false → ∀ j ∈ Region.ready md ops listed, j < n) :
    ∀ (t : Pl) (f : Nat) (listed : Array Bool) (a : Act) (w : World), HeadInv md ops n listed →
      (treeB md ops n false f t listed = true → wpJ P ops oF rF Q t a w → wpAnyJ P md ops oF rF n (fun listed' a' w' => Region.seqB md ops (ops.size - n) n listed' = true ∧ Q a' w') f listed a w) ∧
      (treeB md ops n true f t listed = true → wpJ P ops oF rF Q t a w → ∀ j ∈ t.heads, j ∈ Region.ready md ops listed → 0 < f ∧ j < n ∧ canOpJ P ops oF rF j (wpAnyJ P md ops oF rF n (fun listed' a' w' => Region.seqB md ops (ops.size - n) n listed' = true ∧ Q a' w') (f - 1) (listed.setIfInBounds j true)) a w)
  | .done, f, listed, a, w, _ => ⟨fun hB h => by
      simp only [treeB, Bool.and_eq_true, decide_eq_true_eq] at hB
      obtain ⟨⟨_, rfl⟩, hB⟩ := hB
      exact ⟨hB, h⟩, fun hB => by simp [treeB] at hB⟩
  | .flt i t, f, listed, a, w, inv => ⟨fun hB h => by
      simp only [treeB, Bool.and_eq_true, decide_eq_true_eq] at hB
      obtain ⟨⟨⟨⟨⟨_, hf⟩, hin⟩, hr⟩, hfr⟩, hB'⟩ := hB
      obtain ⟨g, rfl⟩ : ∃ g, f = g + 1 := ⟨f - 1, by omega⟩
      have hr' : i ∈ Region.ready md ops listed := by simpa using hr
      unfold wpJ at h
      cases ho : ops[i]? with
      | none => simp only [ho] at h
      | some o =>
        simp only [ho] at h
        obtain ⟨v, hy, hK⟩ : ∃ v, YieldsJ P ops oF rF o v a ∧ wpJ P ops oF rF Q t (a.put o.dst v) w := by
          by_cases hw : Region.wanted o (yielded ops a.tmps) = true
          · rw [if_pos hw] at h
            obtain ⟨v, h1, h2⟩ := h
            exact ⟨v, .inl ⟨hw, h1⟩, h2⟩
          · rw [if_neg hw] at h
            exact ⟨undef, .inr ⟨by simpa using hw, rfl⟩, h⟩
        exact wpAnyJ_first (fun _ _ _ _ hw hq => ⟨hq.1, hQ _ _ _ hw hq.2⟩) ho (Region.noSelect_spec hsel) (hnt i hin) (fun _ _ _ hL => seqB_ready hL.1) hin g listed a w inv (Region.free_spec ho hfr) hr' hy
          ((wpAnyJ_tree hQ hsel hnt t g _ _ _ (inv.set hr' hin)).1 (by simpa using hB') hK), fun hB => by simp [treeB] at hB⟩
  | .gr i t e, f, listed, a, w, inv => by
      have alt : ∀ alt, treeB md ops n alt f (.gr i t e) listed = true → wpJ P ops oF rF Q (.gr i t e) a w → ∀ j ∈ (Pl.gr i t e).heads, j ∈ Region.ready md ops listed → 0 < f ∧ j < n ∧ canOpJ P ops oF rF j (wpAnyJ P md ops oF rF n (fun listed' a' w' => Region.seqB md ops (ops.size - n) n listed' = true ∧ Q a' w') (f - 1) (listed.setIfInBounds j true)) a w := by
        intro alt hB h j hj hjr
        simp only [treeB, Bool.and_eq_true, decide_eq_true_eq] at hB
        obtain ⟨⟨⟨⟨_, hf⟩, hin⟩, hB1⟩, hB2⟩ := hB
        unfold wpJ at h
        obtain ⟨h1, h2⟩ := h
        simp only [Pl.heads, List.mem_cons] at hj
        by_cases hji : j = i
        · subst hji
          refine ⟨hf, hin, fun w' hw' h0 => ?_⟩
          cases ho : ops[j]? with
          | none => simp only [ho] at h1
          | some o =>
            simp only [ho] at h1
            unfold wpOp
            simp only [ho]
            by_cases hw : Region.wanted o (yielded ops a.tmps) = true
            · rw [if_pos hw] at h1 ⊢
              exact .inl (Oper.wp_mono (fun a' w2 hk => ⟨hk.1, (wpAnyJ_tree hQ hsel hnt t _ _ _ _ (inv.set hjr hin)).1 hB1 hk.2⟩) (h1 w' hw'))
            · rw [if_neg hw] at h1 ⊢
              exact ⟨h0, wpAnyJ_later (fun _ _ _ _ hw hq => ⟨hq.1, hQ _ _ _ hw hq.2⟩) _ _ _ _ _ hw' ((wpAnyJ_tree hQ hsel hnt t _ _ _ _ (inv.set hjr hin)).1 hB1 h1)⟩
        · have hj' : j ∈ e.heads := by rcases hj with h | h; exact absurd h hji; exact h
          exact (wpAnyJ_tree hQ hsel hnt e f listed a w inv).2 hB2 h2 j hj' hjr
      refine ⟨fun hB h => ?_, alt true⟩
      have hB0 := hB
      simp only [treeB, Bool.and_eq_true, decide_eq_true_eq, Bool.false_or] at hB
      obtain ⟨⟨⟨⟨⟨hall, hne⟩, hf⟩, _⟩, _⟩, _⟩ := hB
      obtain ⟨g, rfl⟩ : ∃ g, f = g + 1 := ⟨f - 1, by omega⟩
      refine ⟨fun h0 => by rw [h0] at hne; simp at hne, fun j hj => ?_⟩
      have hjh : j ∈ (Pl.gr i t e).heads := by simpa using List.all_eq_true.1 hall j hj
      exact (alt false hB0 h j hjh hj).2
  | .nil, f, listed, a, w, _ => ⟨fun hB => by simp [treeB] at hB, fun _ _ j hj => by simp [Pl.heads] at hj⟩
theorem wp_region_inv {id : Nat} {Q : Exit → Act → World → Prop} {a : Act} {w : World} {l : List Oper} (n : Nat) (t : Pl) (hm : P.follows .mixedOrders = true)
    (hB : (Region.noSelect l.toArray && (decide (n = l.toArray.size) || (decide (n < l.toArray.size) && Region.sinkB .any l.toArray n && Region.chainB .any l.toArray n)) && treeB .any l.toArray n false n t (Array.replicate l.toArray.size false)) = true)
    (hw : Mem w oF rF) (h : wpJ P l.toArray oF rF (fun a' w' => ∀ w'', Later w' w'' → wpList P l.toArray Q (l.drop n) a' w'') t a w) : (Code.region id l.toArray true).wp P Q a w := by
  simp only [Bool.and_eq_true] at hB
  obtain ⟨⟨hsel, hn⟩, hpl⟩ := hB
  have hnle : n ≤ l.toArray.size := by
    rcases Bool.or_eq_true _ _ ▸ hn with hn | hn
    · simp only [decide_eq_true_eq] at hn; omega
    · simp only [Bool.and_eq_true, decide_eq_true_eq] at hn; omega
  have hnt : ∀ i, i < n → ∀ listed, HeadInv .any l.toArray n listed → listed.getD i true = false → ∀ j ∈ Region.ready .any l.toArray listed, j < n := by
    intro i hin listed inv hun j hj
    rcases Bool.or_eq_true _ _ ▸ hn with hn | hn
    · simp only [decide_eq_true_eq] at hn
      have := ready_lt j hj
      omega
    · simp only [Bool.and_eq_true, decide_eq_true_eq] at hn
      obtain ⟨⟨hn, hs⟩, hc⟩ := hn
      rcases Nat.lt_or_ge j n with h | h
      · exact h
      · exact absurd hj (tail_waits hs hc hn inv _ i rfl hin hun j h)
  have inv0 : HeadInv .any l.toArray n (Array.replicate l.toArray.size false) :=
    ⟨by simp, fun j oj _ hl => (by rw [getD_replicate_false] at hl; cases hl), fun t _ ht => getD_in (by simpa using ht) (getD_replicate_false _ _)⟩
  have H := (wpAnyJ_tree (P := P) (md := .any) (oF := oF) (rF := rF) (Q := fun a' w' => ∀ w'', Later w' w'' → wpList P l.toArray Q (l.drop n) a' w'') (fun a w w' hw hq w'' hw'' => hq w'' (hw.trans hw'')) hsel hnt t n _ a w inv0).1 hpl h
  refine wp_region_any hm ?_
  have hdl : (l.drop n).length = l.toArray.size - n := by simp
  have := wpAny_of_canJ (Q' := Q) (g := l.toArray.size - n) (oF := oF) (rF := rF) (fun listed a' w' _ hL => by
    have := wpAny_of_seq (md := .any) (Q' := Q) (l.drop n) n listed a' w' (fun j => by simp [List.getElem?_drop]) (by rw [hdl]; exact hL.1) (hL.2 w' (Later.refl _))
    rwa [hdl] at this) _ _ _ _ (hw.later (Later.drew w)) (wpAnyJ_later (fun _ _ _ _ hw hq => ⟨hq.1, fun w2 h2 => hq.2 w2 (hw.trans h2)⟩) _ _ _ _ _ (Later.drew w) H)
  rw [show n + (l.toArray.size - n) = l.toArray.size by omega] at this
  exact this
end
section
variable {P : Program} {n : Nat} {l : List (Nat × Value)} {own oF : List (Nat × Obj)} {ro : List Snap} {lops : List Oper} {Q : Exit → Act → World → Prop} {K : Act → World → Prop} {i d : Nat} {t e : Pl} {op : Op} {ty : TypeId} {pos : String} {af : Array Edge}
/-- A region that draws its order and turns blocks of the call's own: oF are those that it lets alone. -/
theorem rg_inv {id : Nat} {Q : Exit → Act → World → Prop} (oF : List (Nat × Obj)) (m : Nat) (t : Pl) (hsub : oF.Sublist own) (hm : P.follows .mixedOrders = true)
    (hB : (Region.noSelect lops.toArray && (decide (m = lops.toArray.size) || (decide (m < lops.toArray.size) && Region.sinkB .any lops.toArray m && Region.chainB .any lops.toArray m)) && treeB .any lops.toArray m false m t (Array.replicate lops.toArray.size false)) = true)
    (h : S (wpJ P lops.toArray oF ro (fun a' w' => ∀ w'', Later w' w'' → wpList P lops.toArray Q (lops.drop m) a' w'') t) n l own ro) : W P (.region id lops.toArray true) Q n l own ro :=
  fun a w ha hw => wp_region_inv m t hm hB (hw.less hsub (fun _ h => h)) (h a w ha hw)
theorem j_run {o : Oper} (ho : lops[i]? = some o) (hgo : Go_ lops n l o) (hd0 : o.dst = some d) (hd : decide (d < n) = true) {v : Value} (hv : OpV P n l oF ro o.op o.type v)
    (h : S (wpJ P lops.toArray oF ro K t) n ((d, v) :: l) own ro) : S (wpJ P lops.toArray oF ro K (.flt i t)) n l own ro := fun a w ha hw => by
  have hd' : d < n := of_decide_eq_true hd
  unfold wpJ
  simp only [List.getElem?_toArray, ho]
  rw [if_pos (hgo a ha)]
  refine ⟨v, fun w' hw' => ?_, by rw [hd0]; exact h _ w (ha.put v hd') hw⟩
  unfold fltAt
  rw [hv a w' _ ha hw' rfl rfl]
  exact ⟨rfl, rfl⟩
theorem j_val (ho : lops[i]? = some ⟨some d, op, ty, pos, af, none⟩) (hd : decide (d < n) = true) {v : Value} (hv : OpV P n l oF ro op ty v)
    (h : S (wpJ P lops.toArray oF ro K t) n ((d, v) :: l) own ro) : S (wpJ P lops.toArray oF ro K (.flt i t)) n l own ro := j_run ho (go_none rfl) rfl hd hv h
/-- An operation that turns a block, or makes one. -/
theorem j_gr (h : WX P lops.toArray (fun _ _ _ => False) (fun a w => Mem w oF ro ∧ wpJ P lops.toArray oF ro K t a w) [(none, i)] n l own ro) (he : S (wpJ P lops.toArray oF ro K e) n l own ro) : S (wpJ P lops.toArray oF ro K (.gr i t e)) n l own ro := fun a w ha hw => by
  have h := h a w ha hw
  unfold wpJ
  refine ⟨?_, he a w ha hw⟩
  simp only [wpX] at h
  split <;> rename_i ho <;> simp only [ho] at h
  split <;> rename_i hw'
  · intro w2 h2
    have h := h w2 h2
    rw [if_pos hw'] at h
    exact Oper.wp_mono (fun a' w' hk => hk w' (Later.refl _)) h
  · have h := h w (Later.refl _)
    rw [if_neg hw'] at h
    exact (h w (Later.refl _)).2
theorem j_end (hsub : oF.Sublist own) (h : S (wpJ P lops.toArray oF ro K t) n l own ro) : S (fun a w => Mem w oF ro ∧ wpJ P lops.toArray oF ro K t a w) n l own ro := fun a w ha hw => ⟨hw.less hsub (fun _ h => h), h a w ha hw⟩
theorem j_nil : S (wpJ P lops.toArray oF ro K .nil) n l own ro := fun _ _ _ _ => trivial
theorem j_done {m : Nat} (h : WX P lops.toArray Q (fun a w => Q .normal a w) (tailFrom m lops.length) n l own ro) :
    S (wpJ P lops.toArray oF ro (fun a' w' => ∀ w'', Later w' w'' → wpList P lops.toArray Q (lops.drop m) a' w'') .done) n l own ro :=
  fun a w ha hw w2 h2 => wpList_of_X _ m a w2 rfl (wpX_later h2 (h a w ha hw))
end
end Go.PK

/- Of the proofs of YtafannhhkfpbeaaGreatDoor; see NOTES.md. -/
/-! A serial in the memory of the call. -/
namespace Go.PK
open Go Go.RowKit
set_option linter.unusedVariables false
/-- The cells of a serial. -/
def serC (p : Pat) (r1 r2 R : RowS) (n : Nat) : List Value := [.int .i64 p.first, .int .i64 p.days, rowV r1 p.lv.length, rowV r2 p.st.length, rowV R n]
/-- Its rows: the pattern's, and that of the entries. -/
structure SerOK (p : Pat) (es : List Ent) (r1 r2 R : RowS) : Prop where
  fst : in64 p.first
  dys : in64 p.days
  lvs : rowOK 1 r1 p.lv.length (p.lv.map (Value.int .i64))
  lin : ∀ d ∈ p.lv, in64 d
  sts : rowOK 1 r2 p.st.length (p.st.map (Value.int .i64))
  sin : ∀ d ∈ p.st, in64 d
  ent : rowOK 4 R es.length (entsC es)
  ein : ∀ x ∈ es, entIn x
theorem SerOK.with {p : Pat} {es es' : List Ent} {r1 r2 R R' : RowS} (h : SerOK p es r1 r2 R) (h1 : rowOK 4 R' es'.length (entsC es')) (h2 : ∀ x ∈ es', entIn x) : SerOK p es' r1 r2 R' := ⟨h.fst, h.dys, h.lvs, h.lin, h.sts, h.sin, h1, h2⟩
end Go.PK

/- Of the proofs of YtafannhhkfpbeaaGreatDoor; see NOTES.md. -/
/-! What has arrived, and what is missing. -/
namespace Go.PK
open Go Go.RowKit
set_option linter.unusedVariables false
/-- An entry that Take may have made. -/
def entOK (x : Ent) : Prop := 0 ≤ x.fr ∧ x.fr ≤ x.to ∧ x.to < 100000 ∧ x.to - x.fr < 100 ∧ okDay x.day
def heldJ (p : Pat) (x : Ent) (j : Nat) : List Iss := (List.range j).map fun i => ⟨numsP p (x.fr + (i : Nat)), x.day⟩
def heldE (p : Pat) (x : Ent) : List Iss := if x.sk then [] else heldJ p x (x.to - x.fr + 1).toNat
def heldP (p : Pat) (es : List Ent) : List Iss := es.flatMap (heldE p)
theorem heldJ_succ (p : Pat) (x : Ent) (j : Nat) : heldJ p x (j + 1) = heldJ p x j ++ [⟨numsP p (x.fr + (j : Nat)), x.day⟩] := by unfold heldJ; rw [List.range_succ, List.map_append]; rfl
theorem heldJ_len (p : Pat) (x : Ent) (j : Nat) : (heldJ p x j).length = j := by simp [heldJ]
theorem heldP_snoc {p : Pat} {es : List Ent} {k : Nat} (h : k < es.length) : heldP p (es.take (k + 1)) = heldP p (es.take k) ++ heldE p es[k] := by
  unfold heldP; rw [List.take_succ_eq_append_getElem h, List.flatMap_append, List.flatMap_singleton]
theorem heldE_len {p : Pat} {x : Ent} (h : entOK x) : (heldE p x).length ≤ 100 := by
  obtain ⟨h1, h2, h3, h4, _⟩ := h
  unfold heldE
  split
  · exact Nat.zero_le _
  · rw [heldJ_len]; omega
theorem heldP_len {p : Pat} {es : List Ent} (h : ∀ x ∈ es, entOK x) : ∀ k, (heldP p (es.take k)).length ≤ 100 * k
  | 0 => by simp [heldP]
  | k + 1 => by
    have ih := heldP_len (p := p) h k
    by_cases hk : k < es.length
    · rw [heldP_snoc hk, List.length_append]
      have := heldE_len (p := p) (h _ (List.getElem_mem hk))
      omega
    · rw [List.take_of_length_le (by omega)]
      rw [List.take_of_length_le (by omega)] at ih
      omega
theorem entOK.in {x : Ent} (h : entOK x) : entIn x := by
  obtain ⟨h1, h2, h3, h4, h5⟩ := h
  unfold okDay at h5
  exact ⟨by unfold in64; omega, by unfold in64; omega, by unfold in64; omega⟩
/-- A serial that can be read. -/
structure SerRd (w : World) (b : Nat) (p : Pat) (es : List Ent) (v1 v2 v3 : Value) : Prop where
  cells : ∀ j (hj : j < [Value.int .i64 p.first, Value.int .i64 p.days, v1, v2, v3].length), w.cell? ⟨b, j, none⟩ = some [Value.int .i64 p.first, Value.int .i64 p.days, v1, v2, v3][j]
  lvs : sliceRd tyI (fun _ => True) w v1 p.lv
  sts : sliceRd tyI (fun _ => True) w v2 p.st
  fst : in64 p.first
  dys : in64 p.days
  ent : sliceRd tyEnt (fun _ => True) w v3 es
/-- From the call's own blocks. -/
theorem SerOK.rd {p : Pat} {es : List Ent} {r1 r2 R : RowS} (h : SerOK p es r1 r2 R) {w : World} {own : List (Nat × Obj)} {ro : List Snap} {b : Nat} {e e1 e2 : TypeId} (hm : Mem w own ro) (hb : (b, Obj.cells (serC p r1 r2 R es.length).toArray e (0, 0)) ∈ own)
    (h1 : ∀ q ∈ rowO e1 r1, q ∈ own) (h2 : ∀ q ∈ rowO e1 r2, q ∈ own) (h3 : ∀ q ∈ rowO e2 R, q ∈ own) : SerRd w b p es (rowV r1 p.lv.length) (rowV r2 p.st.length) (rowV R es.length) where
  cells := fun j hj => by
    have := hm.cell_own hb j
    rw [this, List.getElem?_toArray]
    exact List.getElem?_eq_getElem (l := serC p r1 r2 R es.length) hj
  lvs := rowI_rd (e := e1) h.lvs rfl h.lin hm h1 (fun _ _ => trivial)
  sts := rowI_rd (e := e1) h.sts rfl h.sin hm h2 (fun _ _ => trivial)
  fst := h.fst
  dys := h.dys
  ent := ents_rd (e := e2) h.ent rfl h.ein hm h3 (fun _ _ => trivial)
theorem SerRd.keep {w w' : World} {b : Nat} {p : Pat} {es : List Ent} {v1 v2 v3 : Value} (h : SerRd w b p es v1 v2 v3) (hl : Later w w') : SerRd w' b p es v1 v2 v3 :=
  ⟨fun j hj => (hl.cell (p := ⟨b, j, none⟩) (cell_lt (h.cells j hj))).trans (h.cells j hj), h.lvs.keep (Kept.later hl), h.sts.keep (Kept.later hl), h.fst, h.dys, h.ent.keep (Kept.later hl)⟩
end Go.PK

/- Of the proofs of YtafannhhkfpbeaaGreatDoor; see NOTES.md. -/
/-! A region of a round (the body of a range over a function), walked as everywhere. -/
namespace Go.PK
open Go Go.RowKit
set_option linter.unusedVariables false
theorem rowsIn_of {n : Nat} {P : Program} {row : String} {args : Array Value} {w : World} {R : Value → World → Prop} (h : Rows P row args w R) : RowsIn Fence.wide n P row args w R :=
  fun c cs _ => let ⟨v, w', r, s⟩ := h c cs; ⟨v, w', r, stepsIn_wide.2 s⟩
theorem oper_in {lr n : Nat} {P : Program} {o : Oper} {a : Act} {w : World} {K : Act → World → Prop} {Q : Exit → Act → World → Prop} (hd : ∀ c, o.op ≠ .defer c) (h : o.wp P a w K Q) : o.wpIn (Fence.wide.inRound lr) n P a w K Q := by
  refine ⟨fun _ _ => trivial, ?_⟩
  rw [Oper.semAt_eq _ _ _ hd]
  unfold Oper.wp at h
  cases hr : (execOp a.eval o).run P w with
  | ok x w' =>
    rw [hr] at h
    cases x with
    | value v => exact h
    | skip => exact h
    | defer d => exact h
    | enter f args => exact ⟨fun h => by simp [Fence.wide] at h, callsIn_wide.2 h⟩
    | row row args => exact ⟨fun h => by simp [Fence.wide] at h, rowsIn_of h⟩
    | _ => exact h.elim
  | halt x w' =>
    rw [hr] at h
    cases x <;> first | exact h | exact h.elim
theorem any_in {lr n : Nat} {P : Program} {md : Region.Mode} {ops : Array Oper} {Q : Exit → Act → World → Prop} (hlo : ¬LetsOut Q) (hd : ∀ (j : Nat) (o : Oper) c, ops[j]? = some o → o.op ≠ .defer c) :
    ∀ (fuel : Nat) (listed : Array Bool) (a : Act) (w : World), wpAny P md ops Q fuel listed a w → wpAnyIn (Fence.wide.inRound lr) n P md ops Q fuel listed a w
  | 0, _, _, _, h => h
  | fuel + 1, listed, a, w, h => ⟨h.1, fun i hi => by
    have h2 := h.2 i hi
    unfold wpOp at h2
    unfold wpOpIn
    cases ho : ops[i]? with
    | none => rw [ho] at h2; exact any_in hlo hd fuel _ _ _ h2
    | some o =>
      rw [ho] at h2
      dsimp only at h2 ⊢
      split
      · rename_i hw
        rw [if_pos hw] at h2
        rcases h2 with h2 | h2
        · exact oper_in (hd i o · ho) (Oper.wp_mono (fun a' w' hk => any_in hlo hd fuel _ _ _ hk) h2)
        · exact absurd h2.2 hlo
      · rename_i hw
        rw [if_neg hw] at h2
        exact ⟨fun _ _ => trivial, any_in hlo hd fuel _ _ _ h2⟩⟩
section
variable {P : Program}
end
section
variable {P : Program} {oF : List (Nat × Obj)} {rF : List Snap}
theorem wpIn_region_inv {lr k id : Nat} {Q : Exit → Act → World → Prop} {a : Act} {w : World} {l : List Oper} (n : Nat) (t : Pl) (hlo : ¬LetsOut Q) (hd : ∀ (j : Nat) (o : Oper) c, l.toArray[j]? = some o → o.op ≠ .defer c) (hm : P.follows .mixedOrders = true)
    (hB : (Region.noSelect l.toArray && (decide (n = l.toArray.size) || (decide (n < l.toArray.size) && Region.sinkB .any l.toArray n && Region.chainB .any l.toArray n)) && treeB .any l.toArray n false n t (Array.replicate l.toArray.size false)) = true)
    (hw : Mem w oF rF) (h : wpJ P l.toArray oF rF (fun a' w' => ∀ w'', Later w' w'' → wpList P l.toArray Q (l.drop n) a' w'') t a w) : (Code.region id l.toArray true).wpIn (Fence.wide.inRound lr) k P Q a w := by
  simp only [Bool.and_eq_true] at hB
  obtain ⟨⟨hsel, hn⟩, hpl⟩ := hB
  have hnle : n ≤ l.toArray.size := by
    rcases Bool.or_eq_true _ _ ▸ hn with hn | hn
    · simp only [decide_eq_true_eq] at hn; omega
    · simp only [Bool.and_eq_true, decide_eq_true_eq] at hn; omega
  have hnt : ∀ i, i < n → ∀ listed, HeadInv .any l.toArray n listed → listed.getD i true = false → ∀ j ∈ Region.ready .any l.toArray listed, j < n := by
    intro i hin listed inv hun j hj
    rcases Bool.or_eq_true _ _ ▸ hn with hn | hn
    · simp only [decide_eq_true_eq] at hn
      have := ready_lt j hj
      omega
    · simp only [Bool.and_eq_true, decide_eq_true_eq] at hn
      obtain ⟨⟨hn, hs⟩, hc⟩ := hn
      rcases Nat.lt_or_ge j n with h | h
      · exact h
      · exact absurd hj (tail_waits hs hc hn inv _ i rfl hin hun j h)
  have inv0 : HeadInv .any l.toArray n (Array.replicate l.toArray.size false) :=
    ⟨by simp, fun j oj _ hl => (by rw [getD_replicate_false] at hl; cases hl), fun t _ ht => getD_in (by simpa using ht) (getD_replicate_false _ _)⟩
  have H := (wpAnyJ_tree (P := P) (md := .any) (oF := oF) (rF := rF) (Q := fun a' w' => ∀ w'', Later w' w'' → wpList P l.toArray Q (l.drop n) a' w'') (fun a w w' hw hq w'' hw'' => hq w'' (hw.trans hw'')) hsel hnt t n _ a w inv0).1 hpl h
  refine wpIn_region_any hm (any_in hlo hd _ _ _ _ ?_)
  have hdl : (l.drop n).length = l.toArray.size - n := by simp
  have := wpAny_of_canJ (Q' := Q) (g := l.toArray.size - n) (oF := oF) (rF := rF) (fun listed a' w' _ hL => by
    have := wpAny_of_seq (md := .any) (Q' := Q) (l.drop n) n listed a' w' (fun j => by simp [List.getElem?_drop]) (by rw [hdl]; exact hL.1) (hL.2 w' (Later.refl _))
    rwa [hdl] at this) _ _ _ _ (hw.later (Later.drew w)) (wpAnyJ_later (fun _ _ _ _ hw hq => ⟨hq.1, fun w2 h2 => hq.2 w2 (hw.trans h2)⟩) _ _ _ _ _ (Later.drew w) H)
  rw [show n + (l.toArray.size - n) = l.toArray.size by omega] at this
  exact this
theorem rg_invR {lr k id nn : Nat} {l : List (Nat × Value)} {own : List (Nat × Obj)} {ro : List Snap} {Q : Exit → Act → World → Prop} {a : Act} {w : World} {lops : List Oper} (oF : List (Nat × Obj)) (m : Nat) (t : Pl) (hsub : oF.Sublist own) (hlo : ¬LetsOut Q) (hd : lops.all (fun o => match o.op with | .defer _ => false | _ => true) = true) (hm : P.follows .mixedOrders = true)
    (hB : (Region.noSelect lops.toArray && (decide (m = lops.toArray.size) || (decide (m < lops.toArray.size) && Region.sinkB .any lops.toArray m && Region.chainB .any lops.toArray m)) && treeB .any lops.toArray m false m t (Array.replicate lops.toArray.size false)) = true)
    (ha : FH nn l a) (hw : Mem w own ro) (h : S (wpJ P lops.toArray oF ro (fun a' w' => ∀ w'', Later w' w'' → wpList P lops.toArray Q (lops.drop m) a' w'') t) nn l own ro) : (Code.region id lops.toArray true).wpIn (Fence.wide.inRound lr) k P Q a w :=
  wpIn_region_inv m t hlo (fun j o c hj e => by
    rw [List.getElem?_toArray] at hj
    have := List.all_eq_true.1 hd o (List.mem_of_getElem? hj)
    rw [e] at this; cases this) hm hB (hw.less hsub (fun _ h => h)) (h a w ha hw)
end
theorem FH.none {n : Nat} {a : Act} (h1 : a.tmps.size = n) (h2 : a.defers = []) : FH n [] a := ⟨h1, h2, fun s v h => by simp at h⟩
theorem FH.add {n d : Nat} {l : List (Nat × Value)} {a : Act} {v : Value} (h : FH n l a) (hv : a.tmps[d]? = some v) : FH n ((d, v) :: l) a := ⟨h.sz, h.df, fun s u hu => by
  simp only [List.lookup_cons] at hu
  by_cases hs : s = d
  · subst hs; simp at hu; subst hu; exact hv
  · have : (s == d) = false := by simpa using hs
    simp only [this] at hu
    exact h.at_ s u hu⟩
theorem Mem.three {W : World} {b1 b2 b3 : Nat} {o1 o2 o3 : Obj} (h1 : W.heap[b1]? = some o1) (h2 : W.heap[b2]? = some o2) (h3 : W.heap[b3]? = some o3) (n1 : b1 ≠ b2) (n2 : b1 ≠ b3) (n3 : b2 ≠ b3) :
    Mem W [(b1, o1), (b2, o2), (b3, o3)] [(W, notOwn [(b1, o1), (b2, o2), (b3, o3)])] := by
  have h : Mem W [(b1, o1), (b2, o2), (b3, o3)] [] :=
    ⟨(fun p hp => by simp at hp; rcases hp with rfl | rfl | rfl <;> assumption), (by simp; exact ⟨⟨n1, n2⟩, n3⟩), (fun s hs => by cases hs), (fun s hs => by cases hs), (fun p hp s hs => by cases hs)⟩
  exact h.snap
end Go.PK

/- Of the proofs of YtafannhhkfpbeaaGreatDoor; see NOTES.md. -/
/-! What is missing. -/
namespace Go.PK
open Go Go.RowKit
set_option linter.unusedVariables false
theorem sliceRd.drop1 {α : Type} {T : Ty α} {D : Nat → Prop} {w : World} {A : Option Addr} {l c : Nat} {x : α} {xs : List α} (h : sliceRd T D w (.slice A l c) (x :: xs)) :
    sliceRd T D w (.slice (if c = 1 then A else A.map (fun a => a.add (1 * T.size))) (l - 1) (c - 1)) xs := by
  obtain ⟨A', c', e, h1, h2, h3⟩ := h
  injection e with e1 e2 e3
  subst e1 e2 e3
  rw [List.length_cons] at h1 h2 ⊢
  refine ⟨_, _, by rw [Nat.add_sub_cancel], by omega, by omega, fun h0 => ?_⟩
  rw [if_neg (by omega)]
  obtain ⟨b, off, rfl, hD, hb, hc⟩ := h3 (by simp)
  refine ⟨b, off + 1 * T.size, by rw [Option.map_some, mk_add], hD, hb, fun j hj => ?_⟩
  obtain ⟨cs, hcs, hr⟩ := hc (j + 1) (by simpa using hj)
  refine ⟨cs, fun i hi => ?_, by simpa using hr⟩
  have := hcs i hi
  rw [show off + (j + 1) * T.size + i = off + 1 * T.size + j * T.size + i by rw [Nat.add_mul]; omega] at this
  exact this
/-- The missing issues from number k on; n have been found. -/
def missF (p : Pat) (d last day : Int) : Nat → Int → List Ent → Nat → List Iss
  | 0, _, _, _ => []
  | f + 1, k, l, n => if k < 100000 ∧ n < 1000 then
      (match l with
       | [] => if p.first + k * p.days + (if k > last then d else 0) > day then [] else ⟨numsP p k, p.first + k * p.days + (if k > last then d else 0)⟩ :: missF p d last day f (k + 1) [] (n + 1)
       | e :: r => if k ≥ e.fr then missF p d last day f (e.to + 1) r n else
          if p.first + k * p.days + (if k > last then d else 0) > day then [] else ⟨numsP p k, p.first + k * p.days + (if k > last then d else 0)⟩ :: missF p d last day f (k + 1) (e :: r) (n + 1))
    else []
def missMu (k : Int) (l : List Ent) : Nat := (100000 - k).toNat + l.length * 200000 + 1
end Go.PK

/- Of the proofs of YtafannhhkfpbeaaGreatDoor; see NOTES.md. -/
/-! Patterns as texts. -/
namespace Go.PK
open Go Go.RowKit
set_option linter.unusedVariables false
section
variable {P : Program} {n : Nat} {l : List (Nat × Value)} {own : List (Nat × Obj)} {ro : List Snap} {ty t t' : TypeId} {x y : Operand}
theorem v_ieq {td : TypeDesc} {v : Value} {b : Bool} (ht : P.underlying t = some td) (hi : (match td with | .interface _ => true | _ => false) = true) (hx : ev l x = some v) (hv : isIface v b) : OpV P n l own ro (.binOp .eql t x (.const .nilIface) t') ty (.bool (!b)) := by
  intro A w o ha _ ho _
  have e : A.eval (.const .nilIface) = .nilIface := rfl
  cases td <;> simp at hi
  rcases hv with ⟨rfl, rfl⟩ | ⟨⟨d, u, rfl⟩, rfl⟩
  · have h : ∀ d : Nat, (Op.equalIn (d + 1) t .nilIface .nilIface).run P w = .ok true w := fun d => by simp [Op.equalIn, run_underlying ht]
    have h2 : (Op.equal t .nilIface .nilIface).run P w = .ok true w := h 9999
    simp [execOp, ho, ha.eval hx, e, eqGuard, binOp, h2]
  · have h : ∀ q : Nat, (Op.equalIn (q + 1) t (.iface d u) .nilIface).run P w = .ok false w := fun q => by simp [Op.equalIn, run_underlying ht]
    have h2 : (Op.equal t (.iface d u) .nilIface).run P w = .ok false w := h 9999
    simp [execOp, ho, ha.eval hx, e, eqGuard, binOp, h2]
end
def sEvery : ByteArray := ⟨#[101, 118, 101, 114, 121, 32]⟩
def sFrom : ByteArray := ⟨#[32, 102, 114, 111, 109, 32]⟩
def sColon : ByteArray := ⟨#[58, 32]⟩
def sComma : ByteArray := ⟨#[44, 32]⟩
/-- A pattern's text: the first level, and k more. -/
noncomputable def wrTo (p : Pat) : Nat → ByteArray
  | 0 => sEvery ++ itoaS p.days ++ sFrom ++ textR p.first ++ sColon ++ itoaS (p.st.getD 0 0)
  | k + 1 => wrTo p k ++ (sComma ++ itoaS (p.st.getD (k + 1) 0) ++ slash ++ itoaS (p.lv.getD (k + 1) 0))
noncomputable def writeQ (p : Pat) : ByteArray := if rightQ p then wrTo p (p.lv.length - 1) else ⟨#[]⟩
theorem textR_sz (n : Int) : (textR n).size ≤ 10 := by
  unfold textR
  split
  · simp only [ByteArray.size_append, lowD_size]; decide
  · decide
theorem wrTo_sz (p : Pat) (hs : ∀ d ∈ p.st, in64 d) (hl : ∀ d ∈ p.lv, in64 d) (hd : in64 p.days) (he : p.st.length = p.lv.length) (h1 : 1 ≤ p.lv.length) : ∀ k, k < p.lv.length → (wrTo p k).size ≤ 100 + 100 * k
  | 0, _ => by
    have a := itoaS_size hd
    have b := itoaS_size (hs _ (by rw [getD_lt (show 0 < p.st.length by omega)]; exact List.getElem_mem _) : in64 (p.st.getD 0 0))
    have c := textR_sz p.first
    have d1 : sEvery.size = 6 := rfl
    have d2 : sFrom.size = 6 := rfl
    have d3 : sColon.size = 2 := rfl
    unfold wrTo
    simp only [ByteArray.size_append]
    omega
  | k + 1, hk => by
    have ih := wrTo_sz p hs hl hd he h1 k (by omega)
    have a := itoaS_size (hs _ (by rw [getD_lt (show k + 1 < p.st.length by omega)]; exact List.getElem_mem _) : in64 (p.st.getD (k + 1) 0))
    have b := itoaS_size (hl _ (by rw [getD_lt (show k + 1 < p.lv.length by omega)]; exact List.getElem_mem _) : in64 (p.lv.getD (k + 1) 0))
    have d1 : sComma.size = 2 := rfl
    have d2 : slash.size = 1 := rfl
    unfold wrTo
    simp only [ByteArray.size_append]
    omega
/-- A piece of a pattern's text: the texts of the start and the level. -/
def pcS (i : Nat) (x : ByteArray) : ByteArray := if 0 < i then (cutG x slash).1 else x
def pcL (i : Nat) (x : ByteArray) : ByteArray := if 0 < i then (cutG x slash).2.1 else ⟨#[48]⟩
def atoiB (x : ByteArray) : Bool := match Lib.atoiAll (bl x) with | .ok _ => true | _ => false
theorem atoiB_case {x : ByteArray} {n : Int} {b : Bool} (h1 : b = false → Lib.atoiAll (bl x) = .ok n) (h2 : b = true → ∀ v, Lib.atoiAll (bl x) ≠ .ok v) : atoiB x = !b ∧ (b = false → n = atoiV x) := by
  unfold atoiB atoiV
  cases b with
  | true =>
    refine ⟨?_, fun h => by cases h⟩
    cases hq : Lib.atoiAll (bl x) with
    | ok v => exact absurd hq (h2 rfl v)
    | _ => rfl
  | false => rw [h1 rfl]; exact ⟨rfl, fun _ => rfl⟩
def rdC1 (s : ByteArray) := cutG s sEvery
def rdC2 (s : ByteArray) := cutG (rdC1 s).2.1 sFrom
def rdC3 (s : ByteArray) := cutG (rdC2 s).2.1 sColon
def rdPs (s : ByteArray) : List ByteArray := splitG (rdC3 s).2.1 sComma
/-- All is fine with the first k pieces. -/
def rdF (s : ByteArray) : Nat → Bool
  | 0 => (rdC1 s).2.2 && (rdC2 s).2.2 && atoiB (rdC2 s).1 && (rdC3 s).2.2
  | k + 1 => rdF s k && atoiB (pcS k ((rdPs s).getD k ⟨#[]⟩)) && atoiB (pcL k ((rdPs s).getD k ⟨#[]⟩))
def rdS (s : ByteArray) (k : Nat) : List Int := (List.range k).map fun i => atoiV (pcS i ((rdPs s).getD i ⟨#[]⟩))
def rdL (s : ByteArray) (k : Nat) : List Int := (List.range k).map fun i => atoiV (pcL i ((rdPs s).getD i ⟨#[]⟩))
theorem rdS_succ (s : ByteArray) (k : Nat) : rdS s (k + 1) = rdS s k ++ [atoiV (pcS k ((rdPs s).getD k ⟨#[]⟩))] := by unfold rdS; rw [List.range_succ, List.map_append]; rfl
theorem rdL_succ (s : ByteArray) (k : Nat) : rdL s (k + 1) = rdL s k ++ [atoiV (pcL k ((rdPs s).getD k ⟨#[]⟩))] := by unfold rdL; rw [List.range_succ, List.map_append]; rfl
def zeroPat : Pat := ⟨0, 0, [], []⟩
end Go.PK

/- Of the proofs of YtafannhhkfpbeaaGreatDoor; see NOTES.md. -/
/-! The example of the document. -/
namespace Go.PK
open Go Go.RowKit
set_option linter.unusedVariables false
def exP : Pat := ⟨19723, 30, [0, 12], [12, 11]⟩
def exT : ByteArray := ⟨#[101, 118, 101, 114, 121, 32, 51, 48, 32, 102, 114, 111, 109, 32, 50, 48, 50, 52, 45, 48, 49, 45, 48, 49, 58, 32, 49, 50, 44, 32, 49, 49, 47, 49, 50]⟩
def exE1 : List Ent := [⟨1, 2, false, 19790⟩]
def exE2 : List Ent := [⟨0, 0, true, 19800⟩, ⟨1, 2, false, 19790⟩]
theorem ex_right : rightQ exP := by decide +kernel
theorem ex_num : numP exP [13, 2] = some 3 := by decide +kernel
theorem ex_t1 : takeQ exP [] ⟨#[49, 50, 47, 49, 50, 45, 49, 51, 47, 49]⟩ 19790 = (exE1, 0) := by decide +kernel
theorem ex_t2 : takeQ exP exE1 ⟨#[120, 49, 50, 47, 49, 49]⟩ 19800 = (exE2, 0) := by decide +kernel
theorem ex_t3 : takeQ exP exE2 ⟨#[49, 51, 47, 49]⟩ 19800 = (exE2, 22) := by decide +kernel
theorem ex_t4 : takeQ exP exE2 ⟨#[49, 50, 47, 49, 51]⟩ 19800 = (exE2, 32) := by decide +kernel
theorem ex_t5 : takeQ exP exE2 ⟨#[49, 50, 47, 48, 49, 49]⟩ 19800 = (exE2, 11) := by decide +kernel
theorem ex_held : heldP exP exE2 = [⟨[12, 12], 19790⟩, ⟨[13, 1], 19790⟩] := by decide +kernel
theorem ex_dly : missF exP 37 2 19850 (missMu 0 exE1) 0 exE1 0 = [⟨[12, 11], 19723⟩, ⟨[13, 2], 19850⟩] := by decide +kernel
theorem ex_pred : predP exP 4 = [⟨[12, 11], 19723⟩, ⟨[12, 12], 19753⟩, ⟨[13, 1], 19783⟩, ⟨[13, 2], 19813⟩] := by decide +kernel
theorem ex_f : rdF exT (rdPs exT).length = true := by decide +kernel
theorem ex_c3 : (rdC3 exT).1 = ⟨#[50, 48, 50, 52, 45, 48, 49, 45, 48, 49]⟩ := by decide +kernel
theorem ex_l : rdL exT (rdPs exT).length = [0, 12] ∧ rdS exT (rdPs exT).length = [12, 11] ∧ atoiV (rdC2 exT).1 = 30 := by decide +kernel
end Go.PK

/- Of the proofs of YtafannhhkfpbeaaGreatDoor; see NOTES.md. -/
/-! Operations under a guard that is known to hold. -/
namespace Go.PK
open Go Go.RowKit
set_option linter.unusedVariables false
section
variable {P : Program} {n : Nat} {l : List (Nat × Value)} {own : List (Nat × Obj)} {ro : List Snap} {lops : List Oper} {Q : Exit → Act → World → Prop} {K : Act → World → Prop}
  {rest : List (Option Bool × Nat)} {k : Option Bool} {i d j dj : Nat} {want : Bool} {op : Op} {ty : TypeId} {pos : String} {af : Array Edge}
theorem x_valg (ho : lops[i]? = some ⟨some d, op, ty, pos, af, some (j, want)⟩) (hj : (lops[j]?).bind (·.dst) = some dj) (hb : l.lookup dj = some (.bool want)) (hk : k.getD true = true) (hd : decide (d < n) = true) {v : Value} (hv : OpV P n l own ro op ty v)
    (h : WX P lops.toArray Q K rest n ((d, v) :: l) own ro) : WX P lops.toArray Q K ((k, i) :: rest) n l own ro := x_run ho (go_some rfl hj hb) rfl hk hd hv h
theorem x_boolg (ho : lops[i]? = some ⟨some d, op, ty, pos, af, some (j, want)⟩) (hj : (lops[j]?).bind (·.dst) = some dj) (hb : l.lookup dj = some (.bool want)) (hk : k.getD true = true) (hd : decide (d < n) = true) {b : Bool} (hv : OpV P n l own ro op ty (.bool b))
    (h : ∀ c, c = b → WX P lops.toArray Q K rest n ((d, .bool c) :: l) own ro) : WX P lops.toArray Q K ((k, i) :: rest) n l own ro := x_run ho (go_some rfl hj hb) rfl hk hd hv (h b rfl)
theorem x_callvg {f : FuncId} {fn : Func} {xs : Array Operand} {tys : Array TypeId} {vs : List Value} (ho : lops[i]? = some ⟨some d, .call ⟨.value (.func f), xs, tys⟩, ty, pos, af, some (j, want)⟩) (hj : (lops[j]?).bind (·.dst) = some dj) (hb : l.lookup dj = some (.bool want)) (hk : k.getD true = true) (hd : decide (d < n) = true)
    (hf : P.funcs[f]? = some fn) (hbody : (!(fn.name == "runtime.NumGoroutine") && fn.body.isSome) = true) (hx : evs l xs.toList = some vs) {v : Value}
    (hc : ∀ w, Mem w own ro → Calls P f vs.toArray w fun e w' => e = .returned v ∧ Later w w')
    (h : WX P lops.toArray Q K rest n ((d, v) :: l) own ro) : WX P lops.toArray Q K ((k, i) :: rest) n l own ro :=
  x_callv_core (fst := #[]) (cap := #[]) ho (go_some rfl hj hb) rfl rfl hk hd rfl hf hbody hx (by simpa using hc) h
theorem x_callbg {f : FuncId} {fn : Func} {xs : Array Operand} {tys : Array TypeId} {vs : List Value} (ho : lops[i]? = some ⟨some d, .call ⟨.value (.func f), xs, tys⟩, ty, pos, af, some (j, want)⟩) (hj : (lops[j]?).bind (·.dst) = some dj) (hb : l.lookup dj = some (.bool want)) (hk : k.getD true = true) (hd : decide (d < n) = true)
    (hf : P.funcs[f]? = some fn) (hbody : (!(fn.name == "runtime.NumGoroutine") && fn.body.isSome) = true) (hx : evs l xs.toList = some vs) {b : Bool}
    (hc : ∀ w, Mem w own ro → Calls P f vs.toArray w fun e w' => e = .returned (.bool b) ∧ Later w w')
    (h : ∀ c, c = b → WX P lops.toArray Q K rest n ((d, .bool c) :: l) own ro) : WX P lops.toArray Q K ((k, i) :: rest) n l own ro := x_callvg ho hj hb hk hd hf hbody hx hc (h b rfl)
theorem x_turng {τ : Type} {f : FuncId} {fn : Func} {xs : Array Operand} {tys : Array TypeId} {vs : List Value} {v : Value} (R : τ → Prop) (O : τ → List (Nat × Obj)) (ho : lops[i]? = some ⟨some d, .call ⟨.value (.func f), xs, tys⟩, ty, pos, af, some (j, want)⟩) (hj : (lops[j]?).bind (·.dst) = some dj) (hb : l.lookup dj = some (.bool want)) (hd : decide (d < n) = true)
    (hf : P.funcs[f]? = some fn) (hbody : (!(fn.name == "runtime.NumGoroutine") && fn.body.isSome) = true) (hx : evs l xs.toList = some vs)
    (hc : ∀ w, Mem w own ro → Calls P f vs.toArray w fun e w' => e = .returned v ∧ ∃ x, R x ∧ Mem w' (O x) ro)
    (h : ∀ x, R x → WX P lops.toArray Q K rest n ((d, v) :: l) (O x) ro) : WX P lops.toArray Q K ((none, i) :: rest) n l own ro := by
  intro a w ha hw
  have hd' : d < n := of_decide_eq_true hd
  have hw1 := go_some (lops := lops) (n := n) (l := l) (o := ⟨some d, .call ⟨.value (.func f), xs, tys⟩, ty, pos, af, some (j, want)⟩) rfl hj hb a ha
  simp only [wpX, List.getElem?_toArray, ho]
  intro w' hl
  rw [if_pos hw1]
  unfold Oper.wp
  have hc' : ∀ w, Mem w own ro → Calls P f ((#[] : Array Value) ++ vs.toArray ++ #[]) w fun e w' => e = .returned v ∧ ∃ x, R x ∧ Mem w' (O x) ro := by simpa using hc
  rw [run_callv (fst := #[]) (cap := #[]) rfl ha rfl hf hbody hx]
  refine Calls.mono (hc' w' (hw.later hl)) fun e w2 he => ?_
  obtain ⟨rfl, x, hr, hm⟩ := he
  exact h x hr _ w2 (ha.put v hd') hm
end
end Go.PK

/- Of the proofs of YtafannhhkfpbeaaGreatDoor; see NOTES.md. -/
/-! Orders and invoices have few segments, elements and texts. -/
namespace Go.PK
open Go Go.RowKit
set_option linter.unusedVariables false
def fewE (x : Seg) : Prop := x.els.length ≤ 100 ∧ ∀ y ∈ x.els, y.length ≤ 100
def fewS (l : List Seg) : Prop := l.length ≤ 10000 ∧ ∀ x ∈ l, fewE x
def fund3 (o : Ord) : Ord := { o with fund := 3 }
/-- What a callee hands over as its caller's own, beside what was it before. -/
theorem Mem.join2 {w1 w2 : World} {own1 own2 : List (Nat × Obj)} {ro : List Snap} (h1 : Mem w1 own1 ro) (h2 : Mem w2 own2 [(w1, fun _ => True)]) : Mem w2 (own2 ++ own1) ro where
  own_at := fun p hp => by
    rcases List.mem_append.1 hp with hp | hp
    · exact h2.own_at p hp
    · exact (h2.ro_at _ (.head _) p.1 trivial (h1.lt hp)).trans (h1.own_at p hp)
  own_nd := by
    rw [List.map_append, List.nodup_append]
    refine ⟨h2.own_nd, h1.own_nd, fun a ha b hb e => ?_⟩
    obtain ⟨p, hp, rfl⟩ := List.mem_map.1 ha
    obtain ⟨q, hq, rfl⟩ := List.mem_map.1 hb
    have a1 := h2.apart p hp _ (.head _) trivial
    have a2 := h1.lt hq
    simp only at a1; omega
  ro_st := (h1.join h2).ro_st
  ro_at := (h1.join h2).ro_at
  apart := fun p hp s hs hd => by
    rcases List.mem_append.1 hp with hp | hp
    · exact (h1.join h2).apart p hp s hs hd
    · exact h1.apart p hp s hs hd
end Go.PK

/- Of the proofs of YtafannhhkfpbeaaGreatDoor; see NOTES.md. -/
/-! Issues that are written out. -/
namespace Go.PK
open Go Go.RowKit
set_option linter.unusedVariables false
/-- A row of issues of the call's own: for each its numbers' block, its numbers, its day. -/
def isC (L : List (Nat × List Int × Int)) : List Value := (L.map fun x => [Value.slice (some ⟨x.1, 0, none⟩) x.2.1.length x.2.1.length, Value.int .i64 x.2.2]).flatten
theorem iss_row {w : World} {own : List (Nat × Obj)} {ro : List Snap} (hm : Mem w own ro) {b : Nat} {e e' : TypeId} (L : List (Nat × List Int × Int)) (hb : (b, Obj.cells (isC L).toArray e (0, 0)) ∈ own)
    (hr : ∀ x ∈ L, (x.1, Obj.cells (x.2.1.map (Value.int .i64)).toArray e' (0, 0)) ∈ own) (hin : ∀ x ∈ L, (∀ d ∈ x.2.1, in64 d) ∧ in64 x.2.2 ∧ x.2.1.length ≤ maxLen) (hl : L.length ≤ 1000) :
    sliceRd tyIss (fun _ => True) w (.slice (some ⟨b, 0, none⟩) L.length L.length) (L.map fun x => (⟨x.2.1, x.2.2⟩ : Iss)) := by
  have hlt := hm.lt hb
  refine ⟨_, L.length, by rw [List.length_map], by rw [List.length_map]; exact Nat.le_refl _, by rw [List.length_map]; omega, fun _ => ⟨b, 0, rfl, trivial, hlt, fun j hj => ?_⟩⟩
  have hj' : j < L.length := by simpa using hj
  obtain ⟨i1, i2, i3⟩ := hin _ (List.getElem_mem hj')
  refine ⟨[Value.slice (some ⟨L[j].1, 0, none⟩) L[j].2.1.length L[j].2.1.length, Value.int .i64 L[j].2.2], fun i hi => ?_, Value.slice (some ⟨L[j].1, 0, none⟩) L[j].2.1.length L[j].2.1.length, by simp, ?_, by simpa using i2⟩
  · have hc := hm.cell_own hb (0 + j * 2 + i)
    show w.cell? ⟨b, 0 + j * 2 + i, none⟩ = _
    rw [hc, List.getElem?_toArray, Nat.zero_add]
    unfold isC
    rw [flatten_get (m := 2) _ (fun k hk => by rw [List.getElem_map]; rfl) j (by simpa using hj') i hi, List.getElem_map]
    exact List.getElem?_eq_getElem hi
  · have h := hr _ (List.getElem_mem hj')
    have hrow : rowOK 1 (some (L[j].1, L[j].2.1.map (Value.int .i64), L[j].2.1.length)) L[j].2.1.length (L[j].2.1.map (Value.int .i64)) := rowOK_lit (by simp) i3
    have := rowI_rd (D := fun _ => True) (e := e') hrow rfl i1 hm (fun p hp => by rw [show p = _ from List.mem_singleton.1 hp]; exact h) (fun _ _ => trivial)
    simp only [List.getElem_map]
    exact this
/-- A row of numbers of the call's own. -/
theorem num_row {w : World} {own : List (Nat × Obj)} {ro : List Snap} (hm : Mem w own ro) {b : Nat} {e : TypeId} (ns : List Int) (hb : (b, Obj.cells (ns.map (Value.int .i64)).toArray e (0, 0)) ∈ own) (hin : ∀ d ∈ ns, in64 d) (hl : ns.length ≤ maxLen) :
    sliceRd tyI (fun _ => True) w (.slice (some ⟨b, 0, none⟩) ns.length ns.length) ns :=
  rowI_rd (D := fun _ => True) (e := e) (r := some (b, ns.map (Value.int .i64), ns.length)) (rowOK_lit (by simp) hl) rfl hin hm (fun p hp => by rw [show p = _ from List.mem_singleton.1 hp]; exact hb) (fun _ _ => trivial)
end Go.PK

/- Of the proofs of YtafannhhkfpbeaaGreatDoor; see NOTES.md. -/
/-! The laws of serials. -/
namespace Go.PK
open Go Go.RowKit
set_option linter.unusedVariables false
theorem sliceRd.dropN {α : Type} {T : Ty α} {D : Nat → Prop} {w : World} {A : Option Addr} {l c : Nat} {xs : List α} (i : Nat) (hi : i ≤ l) (h : sliceRd T D w (.slice A l c) xs) :
    sliceRd T D w (.slice (if c = i then A else A.map (fun a => a.add (i * T.size))) (l - i) (c - i)) (xs.drop i) := by
  obtain ⟨A', c', e, h1, h2, h3⟩ := h
  injection e with e1 e2 e3
  subst e1 e2 e3
  refine ⟨_, _, by rw [List.length_drop], by rw [List.length_drop]; omega, by rw [List.length_drop]; omega, fun h0 => ?_⟩
  rw [List.length_drop] at h0
  rw [if_neg (by omega)]
  obtain ⟨b, off, rfl, hD, hb, hc⟩ := h3 (by omega)
  refine ⟨b, off + i * T.size, by rw [Option.map_some, mk_add], hD, hb, fun j hj => ?_⟩
  rw [List.length_drop] at hj
  obtain ⟨cs, hcs, hr⟩ := hc (i + j) (by omega)
  refine ⟨cs, fun k hk => ?_, by rw [List.getElem_drop]; exact hr⟩
  have := hcs k hk
  rw [show off + (i + j) * T.size + k = off + i * T.size + j * T.size + k by rw [Nat.add_mul]; omega] at this
  exact this
theorem keep_all {α : Type} {T : Ty α} {w0 w1 : World} {own : List (Nat × Obj)} {ro : List Snap} {v : Value} {xs : List α} (h : sliceRd T (fun _ => True) w0 v xs) (hw1 : Mem w1 own ro) (hs : (w0, notOwn ([] : List (Nat × Obj))) ∈ ro) : sliceRd T (fun _ => True) w1 v xs :=
  h.keep fun k _ hlt => ⟨trivial, hw1.ro_at _ hs k (fun p hp => by cases hp) hlt⟩
end Go.PK

/- Of the proofs of YtafannhhkfpbeaaGreatDoor; see NOTES.md. -/
/-! The reference of serials: the search of a number by halves. -/
namespace Go.PK
open Go Go.RowKit
set_option linter.unusedVariables false
theorem lexC_step {xs ys : List Int} {k : Nat} (h1 : k < xs.length) (h2 : k < ys.length) : lexC (xs.drop k) (ys.drop k) = if xs[k] < ys[k] then -1 else if xs[k] > ys[k] then 1 else lexC (xs.drop (k + 1)) (ys.drop (k + 1)) := by
  rw [List.drop_eq_getElem_cons h1, List.drop_eq_getElem_cons h2, lexC_cons]
theorem lexC_nil (ys : List Int) : lexC [] ys = 0 := by cases ys <;> rfl
theorem srch_cmp {p : Pat} (h : rightQ p) {ns : List Int} {k : Int} (hk : numP p ns = some k) (m : Int) : lexC (numsP p m) ns = cmpI m k := by
  obtain ⟨_, h2⟩ := (numP_iff h ns k).1 hk
  rw [h2, lex_nums h]
theorem srch_lo {p : Pat} (h : rightQ p) {ns : List Int} {k : Int} (hk : numP p ns = some k) {m : Int} (hlt : lexC (numsP p m) ns < 0) : m < k := by
  rw [srch_cmp h hk] at hlt
  unfold cmpI at hlt
  split at hlt
  · assumption
  · split at hlt <;> omega
theorem srch_hi {p : Pat} (h : rightQ p) {ns : List Int} {k : Int} (hk : numP p ns = some k) {m : Int} (hlt : ¬lexC (numsP p m) ns < 0) : k ≤ m := by
  rw [srch_cmp h hk] at hlt
  unfold cmpI at hlt
  split at hlt
  · omega
  · omega
theorem srch_rng {p : Pat} (h : rightQ p) {ns : List Int} {k : Int} (hk : numP p ns = some k) : 0 ≤ k ∧ k < 100000 := ((numP_iff h ns k).1 hk).1
theorem srch_far {p : Pat} (h : rightQ p) {ns : List Int} (hI : ∀ k, numP p ns = some k → (100000 : Int) ≤ k) : numP p ns = none := by
  cases hq : numP p ns with
  | none => rfl
  | some k => have := srch_rng h hq; have := hI k hq; omega
theorem srch_no {p : Pat} (h : rightQ p) {ns : List Int} {m : Int} (hI : ∀ k, numP p ns = some k → m ≤ k ∧ k ≤ m) (hne : lexC (numsP p m) ns ≠ 0) : numP p ns = none := by
  cases hq : numP p ns with
  | none => rfl
  | some k =>
    have h1 := hI k hq
    obtain rfl : k = m := by omega
    rw [srch_cmp h hq] at hne
    exact absurd (by unfold cmpI; rw [if_neg (by omega), if_neg (by omega)]) hne
theorem srch_yes {p : Pat} (h : rightQ p) {ns : List Int} {m : Int} (hl : (numsP p m).length = ns.length) (h0 : 0 ≤ m ∧ m < 100000) (he : lexC (numsP p m) ns = 0) : numP p ns = some m :=
  (numP_iff h ns m).2 ⟨h0, ((lexC_eq _ _ hl).1 he).symm⟩
end Go.PK

/- Of the proofs of YtafannhhkfpbeaaGreatDoor; see NOTES.md. -/
/-! Readers under a bound on the bulk. -/
namespace Go.PK
open Go Go.ChangeShapes Go.WideShapes Go.ChangeAt Go.RowKit
set_option linter.unusedVariables false
/-- A measure of readings. -/
structure Meas (H : Type) where
  f : DataW H → Nat
  all : List (DataW H) → Nat
  str : ∀ bs, f (.lit (.string bs)) = bs.length + 1
  slice : ∀ es sp, f (.slice es sp) = all es + all sp + 1
  agg : ∀ ps, f (.agg ps) = all ps + 1
  cons : ∀ d r, all (d :: r) = f d + all r
  one : ∀ d, 1 ≤ f d
structure RdrN {α : Type} (P : Program) (t : TypeId) (T : Ty α) (N : Nat) : Prop where
  size : P.cellsOf t = T.size
  pos : 0 < T.size
  rd : ∀ {H : Type} {enc : TypeId × Value → H} {w : World} {base : Nat} {sp : Nat → Bool} {held : Bool} {fuel : Nat} {cs : List Value} {x : DataW H × List MemPlace} (M : Meas H), M.f x.1 ≤ N → DataW.trod enc P w base sp held fuel t cs = some x → ∃ y, T.rd (fun _ => True) w cs y
theorem Rdr.N {α : Type} {P : Program} {t : TypeId} {T : Ty α} {N : Nat} (R : Rdr P t T) : RdrN P t T N := ⟨R.size, R.pos, fun _ _ h => R.rd h⟩
def tyStrN (N : Nat) : Ty ByteArray where
  size := 1
  rd := fun _ _ cs x => cs = [.string x] ∧ x.size ≤ N
  len := fun h => by rw [h.1]; rfl
  keep := fun h _ => h
def tySliceN {α : Type} (T : Ty α) (N : Nat) : Ty (List α) where
  size := 1
  rd := fun D w cs xs => ∃ v, cs = [v] ∧ sliceRd T D w v xs ∧ xs.length ≤ N
  len := fun ⟨v, h, _⟩ => by rw [h]; rfl
  keep := fun ⟨v, h, h2, h3⟩ hk => ⟨v, h, h2.keep hk, h3⟩
section
variable {P : Program} {H : Type} {enc : TypeId × Value → H}
end
section
variable {H : Type} {enc : TypeId × Value → H} {P : Program} {W : World} {base b0 : Nat} {sp : Nat → Bool} {held : Bool} {r : Reach} {t e : TypeId} {v : Value} {d : DataW H} {ps : List MemPlace}
theorem sliceRd.each {α : Type} {T : Ty α} {D : Nat → Prop} {v : Value} {xs : List α} {w : World} (h : sliceRd T D w v xs) {Q : α → Prop} (hT : ∀ cs x, T.rd D w cs x → Q x) : ∀ x ∈ xs, Q x := by
  intro x hx
  obtain ⟨A, c, h1, h2, h3, h4⟩ := h
  obtain ⟨b, off, e, hD, hb, hc⟩ := h4 (List.length_pos_of_mem hx)
  obtain ⟨j, hj, rfl⟩ := List.getElem_of_mem hx
  obtain ⟨cs, k1, k2⟩ := hc j hj
  exact hT _ _ k2
end
end Go.PK

/- Of the proofs of YtafannhhkfpbeaaGreatDoor; see NOTES.md. -/
/-! What an order reads as. -/
namespace Go.PK
open Go Go.RowKit
set_option linter.unusedVariables false
abbrev tyRecU : Ty (Int × Int × Unit) := tyCons tyI (tyCons tyI tyNil)
abbrev tyOrdU : Ty (Int × Int × (Int × Int × Unit) × Int × Int × Int × Int × Int × Unit) := tyCons tyI (tyCons tyI (tyCons tyRecU (tyCons tyI (tyCons tyI (tyCons tyI (tyCons tyI (tyCons tyI tyNil)))))))
end Go.PK
