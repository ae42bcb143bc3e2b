/- Of the proofs of YtaniaihoodgmpaaGreatDoor: PkSer4 PkSer5 PkRef4 PkNum PkInv PkInv2 PkPay PkPayT PkSer6 PkTree PkTree2 PkTree3 PkSer7 PkSer8 PkSer9 PkSerW PkSan PkTurnG PkEdi7 PkText PkPayR PkPayS PkPayL PkFull PkFull2 PkBent2 PkIss PkLaw25 PkSerR PkSerT PkSerU PkSerV PkLibs PkCopy PkRound PkClm PkIter PkCod PkTake PkTak2 PkTak3 PkMis PkUnc, put together. -/
import Derived.Test.YtaniaihoodgmpaaGreatDoorM1
import Derived.Lib.AtoiAll
import Derived.Lib.ItoaNum
import Derived.Lib.SplitLaws
import Derived.Lib.IndexBytes
import Derived.Lib.IndexMore
import Derived.Lib.AtoiAllCases
import Derived.Laws.ResultCell
import Derived.ArgAppend
import Derived.Lib.CountLaws
import Derived.Sort.Grow
import Derived.Lib.SlicesCompact
import Derived.Lib.AppendZerosOnto
import Derived.Laws.CopyRow
import Derived.Lib.Overlaps
import Derived.Laws.Externs
import Derived.OrdersIn
import Derived.RangeFuncCalls
import Derived.RangeFuncLeaves
import Derived.RangeFuncRecord
import Derived.RangeFuncSeq
set_option linter.unusedVariables false
set_option linter.unusedSimpArgs false
set_option maxRecDepth 100000

namespace Go.PK
open Go Go.RowKit
def numL (p : Pat) (r : Int) (i : Nat) : List Int := List.replicate (i + 1) 0 ++ (lowP (p.lv.tail.drop i) r).1
def restL (p : Pat) (r : Int) (i : Nat) : Int := (lowP (p.lv.tail.drop i) r).2
theorem numL_start {p : Pat} (h : rightQ p) (r : Int) : numL p r (p.lv.length - 1) = List.replicate p.lv.length 0 ∧ restL p r (p.lv.length - 1) = r := by
  have h1 := h.1.1
  unfold numL restL
  rw [List.drop_eq_nil_of_le (by simp), Nat.sub_add_cancel h1]
  exact ⟨by simp [lowP], rfl⟩
theorem restL_step {p : Pat} {r : Int} {i : Nat} (h : i + 1 < p.lv.length) : restL p r i = restL p r (i + 1) / p.lv.getD (i + 1) 0 := by
  unfold restL; rw [drop_getD (show i < p.lv.tail.length by simp; omega), getD_tail]; rfl
theorem numL_step {p : Pat} {r : Int} {i : Nat} (h : i + 1 < p.lv.length) : (numL p r (i + 1)).set (i + 1) (restL p r (i + 1) % p.lv.getD (i + 1) 0 + 1) = numL p r i := by
  unfold numL restL
  rw [drop_getD (show i < p.lv.tail.length by simp; omega), getD_tail, List.replicate_succ' (n := i + 1), List.append_assoc, List.set_append_right _ _ (by simp)]
  simp [lowP]
theorem numL_end {p : Pat} (h : rightQ p) (k : Int) : (numL p (baseP p + k) 0).set 0 (p.st.getD 0 0 + restL p (baseP p + k) 0) = numsP p k := by
  unfold numL restL numsP lowK
  rw [List.drop_zero]
  show (p.st.getD 0 0 + _) :: _ = _
  congr 2
  cases p.st <;> simp
theorem numL_len {p : Pat} {r : Int} {i : Nat} (h : i < p.lv.length) : (numL p r i).length = p.lv.length := by
  unfold numL; rw [List.length_append, List.length_replicate, low_len, List.length_drop, List.length_tail]; omega
theorem low2_rng : ∀ (ls : List Int) (r : Int), (∀ l ∈ ls, 1 ≤ l) → 0 ≤ r → 0 ≤ (lowP ls r).2 ∧ (lowP ls r).2 ≤ r
  | [], r, _, h => ⟨h, Int.le_refl _⟩
  | l :: ls, r, hl, h => by
    obtain ⟨h1, h2⟩ := low2_rng ls r (fun x hx => hl x (List.mem_cons_of_mem _ hx)) h
    have := hl l (by simp)
    show 0 ≤ (lowP ls r).2 / l ∧ (lowP ls r).2 / l ≤ r
    exact ⟨Int.ediv_nonneg h1 (by omega), Int.le_trans (Int.ediv_le_self _ h1) h2⟩
theorem rightQ.one {p : Pat} (h : rightQ p) : ∀ l ∈ p.lv.tail, 1 ≤ l := fun l hl => by
  obtain ⟨j, hj, rfl⟩ := List.getElem_of_mem hl
  have hj' : j + 1 < p.lv.length := by simp at hj; omega
  have := (h.at (j := j + 1) (by omega) hj').1
  rw [← getD_lt hj, getD_tail]; exact this
theorem restL_rng {p : Pat} (h : rightQ p) {r : Int} (hr : 0 ≤ r) (i : Nat) : 0 ≤ restL p r i ∧ restL p r i ≤ r := low2_rng _ r (fun l hl => h.one l (List.mem_of_mem_drop hl)) hr
theorem nums_in {p : Pat} (h : rightQ p) {k : Int} (h0 : 0 ≤ k) (hk : k ≤ 2000000) : ∀ d ∈ numsP p k, 0 ≤ d ∧ d ≤ 3000000 := fun d hd => by
  have hb := low_carry h h0
  rcases List.mem_cons.1 hd with rfl | hd
  · have h5 := h.1.2.2.2.2.1
    have h6 := h.1.2.2.2.2.2
    have e : p.st.headD 0 = p.st.getD 0 0 := by cases p.st <;> simp
    rw [e]; omega
  · obtain ⟨j, hj, rfl⟩ := List.getElem_of_mem hd
    have hj2 : j < p.lv.tail.length := by have := low_len p.lv.tail (baseP p + k); unfold lowK at hj; omega
    obtain ⟨l1, l2⟩ := low_in p.lv.tail (baseP p + k) h.one j hj hj2
    have hj3 : j + 1 < p.lv.length := by simp at hj2; omega
    have := h.at (j := j + 1) (by omega) hj3
    have e : p.lv.tail[j] = p.lv.getD (j + 1) 0 := by rw [← getD_lt hj2, getD_tail]
    rw [e] at l2
    show 0 ≤ (lowP p.lv.tail (baseP p + k)).1[j] ∧ (lowP p.lv.tail (baseP p + k)).1[j] ≤ 3000000
    omega
theorem nums_in64 {p : Pat} (h : rightQ p) {k : Int} (h0 : 0 ≤ k) (hk : k ≤ 2000000) : ∀ d ∈ numsP p k, in64 d := fun d hd => by
  have := nums_in h h0 hk d hd; unfold in64; omega
theorem day_rng {p : Pat} (h : rightQ p) {k : Int} (h0 : 0 ≤ k) (hk : k ≤ 2000000) : 0 ≤ k * p.days ∧ k * p.days ≤ 20000000000 := by
  have := h.2.2.1
  exact ⟨Int.mul_nonneg h0 (by omega), Int.mul_le_mul hk this.2 (by omega) (by decide)⟩
structure Iss where
  nums : List Int
  day : Int
deriving DecidableEq
def issP (p : Pat) (k : Int) : Iss := ⟨numsP p k, p.first + k * p.days⟩
def predP (p : Pat) (n : Nat) : List Iss := (List.range n).map fun k => issP p (k : Nat)
theorem predP_succ (p : Pat) (n : Nat) : predP p (n + 1) = predP p n ++ [issP p (n : Nat)] := by unfold predP; rw [List.range_succ, List.map_append]; rfl
theorem predP_len (p : Pat) (n : Nat) : (predP p n).length = n := by simp [predP]
def tyIss : Ty Iss where
  size := 2
  rd := fun D w cs x => ∃ v, cs = [v, .int .i64 x.day] ∧ sliceRd tyI D w v x.nums ∧ in64 x.day
  len := fun ⟨v, h, _⟩ => by rw [h]; rfl
  keep := fun ⟨v, h, h1, h2⟩ k => ⟨v, h, h1.keep k, h2⟩
theorem iss_at {D : Nat → Prop} {w : World} {A : Option Addr} {l c : Nat} {xs : List Iss} (h : sliceRd tyIss D w (.slice A l c) xs) {k : Nat} (hk : k < xs.length) :
    ∃ b off v, A = some ⟨b, off, none⟩ ∧ D b ∧ w.cell? ⟨b, off + k * 2, none⟩ = some v ∧ w.cell? ⟨b, off + k * 2 + 1, none⟩ = some (.int .i64 xs[k].day) ∧ sliceRd tyI D w v xs[k].nums ∧ in64 xs[k].day := by
  obtain ⟨A', c', e, h1, h2, h3⟩ := h
  injection e with e1 e2 e3
  obtain ⟨b, off, hA, hD, hb, hc⟩ := h3 (by omega)
  obtain ⟨cs, hcs, v, rfl, h4, h5⟩ := hc k hk
  have g0 := hcs 0 (by simp)
  have g1 := hcs 1 (by simp)
  exact ⟨b, off, v, e1.trans hA, hD, g0, g1, h4, h5⟩
theorem put_int {cs : List Int} {k : Nat} {x : Int} (h : k < cs.length) : List.take (0 + k * 1) (cs.map (Value.int .i64)) ++ (Value.int .i64 x).cells.toList ++ List.drop (0 + k * 1 + 1) (cs.map (Value.int .i64)) = (cs.set k x).map (Value.int .i64) := by
  rw [Nat.mul_one, Nat.zero_add]
  show List.take k (cs.map (Value.int .i64)) ++ [Value.int .i64 x] ++ List.drop (k + 1) (cs.map (Value.int .i64)) = _
  rw [List.map_set, List.set_eq_take_append_cons_drop, if_pos (by simpa using h)]; simp
def valNs (p : Pat) (ns : List Int) : Nat → Int
  | 0 => ns.getD 0 0 - p.st.getD 0 0
  | k + 1 => valNs p ns k * p.lv.getD (k + 1) 0 + ns.getD (k + 1) 0 - 1
theorem val_to {p : Pat} {ns : List Int} (h : ns.length = p.lv.length) : ∀ k, k ≤ p.lv.tail.length → valL (ns.tail.drop k) (p.lv.tail.drop k) (valNs p ns k) = valL ns.tail p.lv.tail (valNs p ns 0)
  | 0, _ => rfl
  | k + 1, hk => by
    have hl : ns.tail.length = p.lv.tail.length := by simp [h]
    rw [← val_to h k (by omega), drop_getD (show k < ns.tail.length by omega), drop_getD (show k < p.lv.tail.length by omega), getD_tail, getD_tail]
    rfl
theorem val_all {p : Pat} {ns : List Int} (h : ns.length = p.lv.length) : valNs p ns (p.lv.length - 1) - baseP p = numK p ns := by
  unfold numK
  show _ = valL ns.tail p.lv.tail (valNs p ns 0) - _
  rw [← val_to h (p.lv.length - 1) (by simp), List.drop_eq_nil_of_le (by simp; omega), List.drop_eq_nil_of_le (by simp)]
  rfl
theorem valNs_rng {p : Pat} {ns : List Int} (h : rightQ p) (h0 : 0 ≤ valNs p ns 0 ∧ valNs p ns 0 ≤ 100000) : ∀ k, k < p.lv.length → (∀ j, j ≤ k → 1 ≤ j → 1 ≤ ns.getD j 0 ∧ ns.getD j 0 ≤ p.lv.getD j 0) → 0 ≤ valNs p ns k ∧ valNs p ns k < 100001 * 1000 ^ k
  | 0, _, _ => by omega
  | k + 1, hk, hn => by
    obtain ⟨i1, i2⟩ := valNs_rng h h0 k (by omega) (fun j h1 h2 => hn j (by omega) h2)
    obtain ⟨a1, a2, a3, a4⟩ := h.at (j := k + 1) (by omega) hk
    obtain ⟨b1, b2⟩ := hn (k + 1) (by omega) (by omega)
    have m1 : 0 ≤ valNs p ns k * p.lv.getD (k + 1) 0 := Int.mul_nonneg i1 (by omega)
    have m2 : valNs p ns k * p.lv.getD (k + 1) 0 ≤ (100001 * 1000 ^ k - 1) * p.lv.getD (k + 1) 0 := Int.mul_le_mul_of_nonneg_right (by omega) (by omega)
    have m3 : (100001 * 1000 ^ k - 1 + 1 : Int) * p.lv.getD (k + 1) 0 ≤ 100001 * 1000 ^ k * 1000 := by
      rw [Int.sub_add_cancel]; exact Int.mul_le_mul_of_nonneg_left a2 (Int.mul_nonneg (by decide) (Int.pow_nonneg (by decide)))
    rw [Int.add_mul, Int.one_mul] at m3
    show 0 ≤ valNs p ns k * p.lv.getD (k + 1) 0 + ns.getD (k + 1) 0 - 1 ∧ valNs p ns k * p.lv.getD (k + 1) 0 + ns.getD (k + 1) 0 - 1 < 100001 * (1000 ^ k * 1000)
    rw [← Int.mul_assoc]
    omega
theorem valNs_le {p : Pat} {ns : List Int} (h : rightQ p) (h0 : 0 ≤ valNs p ns 0 ∧ valNs p ns 0 ≤ 100000) {k : Nat} (hk : k < p.lv.length) (hn : ∀ j, j ≤ k → 1 ≤ j → 1 ≤ ns.getD j 0 ∧ ns.getD j 0 ≤ p.lv.getD j 0) : 0 ≤ valNs p ns k ∧ valNs p ns k < 100001000000000 := by
  have h4 := h.1.2.1
  have := valNs_rng h h0 k hk hn
  have h3 := pow_le3 (k := k) (by omega)
  omega
theorem numP_some {p : Pat} {ns : List Int} (h : numC p ns) : (numP p ns).getD 0 = numK p ns ∧ (numP p ns).isSome = true := by unfold numP; rw [if_pos h]; exact ⟨rfl, rfl⟩
theorem numP_none {p : Pat} {ns : List Int} (h : ¬numC p ns) : (numP p ns).getD 0 = 0 ∧ (numP p ns).isSome = false := by unfold numP; rw [if_neg h]; exact ⟨rfl, rfl⟩
end Go.PK

namespace Go.PK
open Go Go.RowKit
theorem rowOK.set {size n b c k : Nat} {cs xs : List Value} {v : Value} (h : rowOK size (some (b, cs, c)) n xs) (hk : k < n * size) : rowOK size (some (b, cs.set k v, c)) n (xs.set k v) := by
  obtain ⟨h1, h2, h3, h4, h5⟩ := h
  exact ⟨by simpa using h1, h2, h3, by simpa using h4, by simp only at h5 ⊢; rw [List.take_set, h5]⟩
theorem rowOK.setI {n b c k : Nat} {cs : List Value} {xs : List Int} {x : Int} (h : rowOK 1 (some (b, cs, c)) n (xs.map (Value.int .i64))) (hk : k < n) : rowOK 1 (some (b, cs.set k (.int .i64 x), c)) n ((xs.set k x).map (Value.int .i64)) := by
  rw [List.map_set]; exact h.set (by omega)
theorem ints_cells {D : Nat → Prop} {w : World} : ∀ {css : List (List Value)} {xs : List Int}, css.length = xs.length → (∀ j (h1 : j < css.length) (h2 : j < xs.length), tyI.rd D w css[j] xs[j]) → css.flatten = xs.map (Value.int .i64)
  | [], [], _, _ => rfl
  | [], _ :: _, h, _ => by simp at h
  | _ :: _, [], h, _ => by simp at h
  | c :: css, x :: xs, hl, h => by
    have h0 := (h 0 (by simp) (by simp)).1
    have ih := ints_cells (css := css) (xs := xs) (by simpa using hl) (fun j h1 h2 => h (j + 1) (by simpa using h1) (by simpa using h2))
    have h0 : c = [Value.int .i64 x] := h0
    rw [List.flatten_cons, ih, h0]; rfl
theorem ints_news {D : Nat → Prop} {w : World} {A : Option Addr} {m c : Nat} {xs : List Int} (h : sliceRd tyI D w (.slice A m c) xs) :
    (A = none → m = 0) ∧ (∀ w1, Later w w1 → ∀ a, A = some a → ∀ j u, (xs.map (Value.int .i64))[j]? = some u → w1.cell? (a.add j) = some u) ∧ m = xs.length := by
  obtain ⟨css, hcl, hm, _, hrd, hno, hat, _⟩ := h.cells
  rw [ints_cells hcl hrd] at hat
  exact ⟨hno, fun w1 hl a ha j u hu => by have := hat a ha j u hu; exact (hl.cell (cell_lt this)).trans this, hm⟩
theorem ints_one (xs : List Int) : (xs.map (Value.int .i64)).all (fun u => u.oneCell') = true := by
  rw [List.all_eq_true]; intro u hu; obtain ⟨x, _, rfl⟩ := List.mem_map.1 hu; rfl
theorem put_v {cs : List Value} {k : Nat} {x : Int} (h : k < cs.length) : List.take (0 + k * 1) cs ++ (Value.int .i64 x).cells.toList ++ List.drop (0 + k * 1 + 1) cs = cs.set k (.int .i64 x) := by
  rw [Nat.mul_one, Nat.zero_add]
  show List.take k cs ++ [Value.int .i64 x] ++ List.drop (k + 1) cs = _
  rw [List.set_eq_take_append_cons_drop, if_pos h]; simp
theorem lvOK.dr : ∀ {ss ls : List Int} (h : lvOK ss ls) (i : Nat), lvOK (ss.drop i) (ls.drop i)
  | _, _, h, 0 => h
  | [], [], h, i + 1 => by simpa using h
  | [], _ :: _, h, _ => by have := h.1; simp at this
  | _ :: _, [], h, _ => by have := h.1; simp at this
  | s :: ss, l :: ls, h, i + 1 => by simpa using h.tl.dr i
theorem rightQ.lv {p : Pat} (h : rightQ p) : lvOK p.st.tail p.lv.tail := by
  obtain ⟨s0, ls, ss, h1, h2, _, _, h5, _⟩ := h.split
  rw [h1, h2]; exact h5
def carryR (p : Pat) (k : Int) (i : Nat) : Int := (lowR (p.st.tail.drop i) (p.lv.tail.drop i) k).2
def outR (p : Pat) (k : Int) (i : Nat) : List Int := p.st.take (i + 1) ++ (lowR (p.st.tail.drop i) (p.lv.tail.drop i) k).1
theorem outR_start {p : Pat} (h : rightQ p) (k : Int) : outR p k (p.lv.length - 1) = p.st ∧ carryR p k (p.lv.length - 1) = k := by
  have h1 := h.1.1
  have h2 := h.1.2.2.1
  unfold outR carryR
  rw [List.drop_eq_nil_of_le (as := p.st.tail) (by simp; omega), List.take_of_length_le (by omega)]
  exact ⟨by simp [lowR], by simp [lowR]⟩
theorem outR_step {p : Pat} {k : Int} {i : Nat} (hs : p.st.length = p.lv.length) (h : i + 1 < p.lv.length) : (outR p k (i + 1)).getD (i + 1) 0 = p.st.getD (i + 1) 0 ∧
    carryR p k i = (p.st.getD (i + 1) 0 - 1 + carryR p k (i + 1)) / p.lv.getD (i + 1) 0 ∧ outR p k i = (outR p k (i + 1)).set (i + 1) ((p.st.getD (i + 1) 0 - 1 + carryR p k (i + 1)) % p.lv.getD (i + 1) 0 + 1) := by
  have hi : i + 1 < p.st.length := by omega
  have e1 : p.st.tail.drop i = p.st.getD (i + 1) 0 :: p.st.tail.drop (i + 1) := by rw [drop_getD (show i < p.st.tail.length by simp; omega), getD_tail]
  have e2 : p.lv.tail.drop i = p.lv.getD (i + 1) 0 :: p.lv.tail.drop (i + 1) := by rw [drop_getD (show i < p.lv.tail.length by simp; omega), getD_tail]
  have e3 : p.st.take (i + 1 + 1) = p.st.take (i + 1) ++ [p.st.getD (i + 1) 0] := by rw [List.take_succ_eq_append_getElem hi, getD_lt hi]
  unfold outR carryR
  refine ⟨?_, by rw [e1, e2]; rfl, ?_⟩
  · rw [e3, List.append_assoc, List.getD_eq_getElem?_getD, List.getElem?_append_right (by simp; omega)]
    simp [Nat.min_eq_left (show i + 1 ≤ p.st.length by omega)]
  · rw [e3, List.append_assoc, List.set_append_right _ _ (by simp; omega), e1, e2]
    simp [Nat.min_eq_left (show i + 1 ≤ p.st.length by omega), lowR]
theorem outR_end {p : Pat} (h : rightQ p) (k : Int) : (outR p k 0).getD 0 0 = p.st.getD 0 0 ∧ (outR p k 0).set 0 (p.st.getD 0 0 + carryR p k 0) = numsP p k := by
  unfold outR carryR numsP lowK baseP
  have hl := low_ref p.st.tail p.lv.tail 0 k h.lv
  rw [hl, List.drop_zero, List.drop_zero]
  cases hs : p.st with
  | nil => have h2 := h.1.2.2.1; have h1 := h.1.1; rw [hs] at h2; simp at h2; rw [← h2] at h1; simp at h1
  | cons s ss => simp
theorem outR_len {p : Pat} (h : rightQ p) {k : Int} {i : Nat} (hi : i < p.lv.length) : (outR p k i).length = p.lv.length := by
  have h2 := h.1.2.2.1
  unfold outR
  rw [List.length_append, List.length_take, lowR_len _ _ _ (h.lv.dr i).1, List.length_drop, List.length_tail]; omega
theorem carryR_rng {p : Pat} (h : rightQ p) {k : Int} (hk : 0 ≤ k) (i : Nat) : 0 ≤ carryR p k i ∧ carryR p k i ≤ k := lowR_rng _ _ k (h.lv.dr i) hk
def madeL (l : List Int) : List Int := (l.take 3).map fun x => 1 + x % 12
def madeS (l : List Int) : List Int := (l.take 3).map fun x => 1 + x.tdiv 12 % (1 + x % 12)
def madeP (f d : Int) (l : List Int) : Pat := ⟨10000 + f % 10000, 1 + d % 10000, 0 :: madeL l, f % 50 :: madeS l⟩
theorem made_right (f d : Int) (l : List Int) : rightQ (madeP f d l) := by
  have m1 := Int.emod_nonneg f (show (10000 : Int) ≠ 0 by decide)
  have m2 := Int.emod_lt_of_pos f (show (0 : Int) < 10000 by decide)
  have m3 := Int.emod_nonneg d (show (10000 : Int) ≠ 0 by decide)
  have m4 := Int.emod_lt_of_pos d (show (0 : Int) < 10000 by decide)
  have m5 := Int.emod_nonneg f (show (50 : Int) ≠ 0 by decide)
  have m6 := Int.emod_lt_of_pos f (show (0 : Int) < 50 by decide)
  have hL : (madeL l).length = min 3 l.length := by simp [madeL]
  have hS : (madeS l).length = min 3 l.length := by simp [madeS]
  refine ⟨⟨by simp [madeP], by simp only [madeP, List.length_cons]; omega, by simp only [madeP, List.length_cons]; omega, rfl, m5, ?_⟩, fun j h1 h2 => ?_, ⟨by simp only [madeP]; omega, by simp only [madeP]; omega⟩, by simp only [madeP, okDay]; omega⟩
  · show f % 50 ≤ 1000000; omega
  · obtain ⟨i, rfl⟩ : ∃ i, j = i + 1 := ⟨j - 1, by omega⟩
    have hi : i < (madeL l).length := by simpa [madeP] using h1
    have hi2 : i < (madeS l).length := by omega
    have hi3 : i < (l.take 3).length := by simpa [madeL] using hi
    unfold lvAt
    simp only [madeP, List.getD_cons_succ]
    rw [getD_lt hi, getD_lt hi2]
    simp only [madeL, madeS, List.getElem_map]
    generalize (l.take 3)[i] = x
    have a1 := Int.emod_nonneg x (show (12 : Int) ≠ 0 by decide)
    have a2 := Int.emod_lt_of_pos x (show (0 : Int) < 12 by decide)
    have a3 := Int.emod_nonneg (x.tdiv 12) (show (1 + x % 12 : Int) ≠ 0 by omega)
    have a4 := Int.emod_lt_of_pos (x.tdiv 12) (show (0 : Int) < 1 + x % 12 by omega)
    omega
theorem tdiv_in {x : Int} (h : -9223372036854775808 ≤ x ∧ x ≤ 9223372036854775807) {m : Int} (hm : 0 < m) : -9223372036854775808 ≤ x.tdiv m ∧ x.tdiv m ≤ 9223372036854775807 := by
  rcases Int.le_total 0 x with h0 | h0
  · rw [Int.tdiv_eq_ediv_of_nonneg h0]
    have := Int.ediv_le_self m h0
    have := Int.ediv_nonneg h0 (show 0 ≤ m by omega)
    omega
  · have e : x.tdiv m = -((-x).tdiv m) := by rw [Int.neg_tdiv, Int.neg_neg]
    rw [e, Int.tdiv_eq_ediv_of_nonneg (by omega)]
    have := Int.ediv_le_self m (show 0 ≤ -x by omega)
    have := Int.ediv_nonneg (show 0 ≤ -x by omega) (show 0 ≤ m by omega)
    omega
theorem made_in (f d : Int) (l : List Int) : (∀ x ∈ 0 :: madeL l, in64 x) ∧ ∀ x ∈ f % 50 :: madeS l, in64 x := by
  have m5 := Int.emod_nonneg f (show (50 : Int) ≠ 0 by decide)
  have m6 := Int.emod_lt_of_pos f (show (0 : Int) < 50 by decide)
  have key : ∀ x : Int, (0 ≤ 1 + x % 12 ∧ 1 + x % 12 ≤ 12) ∧ (0 ≤ 1 + x.tdiv 12 % (1 + x % 12) ∧ 1 + x.tdiv 12 % (1 + x % 12) ≤ 12) := fun x => by
    have a1 := Int.emod_nonneg x (show (12 : Int) ≠ 0 by decide)
    have a2 := Int.emod_lt_of_pos x (show (0 : Int) < 12 by decide)
    have a3 := Int.emod_nonneg (x.tdiv 12) (show (1 + x % 12 : Int) ≠ 0 by omega)
    have a4 := Int.emod_lt_of_pos (x.tdiv 12) (show (0 : Int) < 1 + x % 12 by omega)
    omega
  constructor
  · intro x hx
    rcases List.mem_cons.1 hx with rfl | hx
    · unfold in64; omega
    · obtain ⟨y, _, rfl⟩ := List.mem_map.1 hx
      have := (key y).1; unfold in64; omega
  · intro x hx
    rcases List.mem_cons.1 hx with rfl | hx
    · unfold in64; omega
    · obtain ⟨y, _, rfl⟩ := List.mem_map.1 hx
      have := (key y).2; unfold in64; omega
theorem madeL_snoc {l : List Int} {k : Nat} (hk : k < l.length) (h : k < 3) : madeL (l.take (k + 1)) = madeL (l.take k) ++ [1 + l[k] % 12] := by
  unfold madeL
  rw [List.take_take, List.take_take, Nat.min_eq_right (by omega), Nat.min_eq_right (by omega), ← List.take_append_getElem hk, List.map_append]; rfl
theorem madeS_snoc {l : List Int} {k : Nat} (hk : k < l.length) (h : k < 3) : madeS (l.take (k + 1)) = madeS (l.take k) ++ [1 + l[k].tdiv 12 % (1 + l[k] % 12)] := by
  unfold madeS
  rw [List.take_take, List.take_take, Nat.min_eq_right (by omega), Nat.min_eq_right (by omega), ← List.take_append_getElem hk, List.map_append]; rfl
theorem made_all {l : List Int} {k : Nat} (h : k = l.length ∨ k = 3) : madeL (l.take k) = madeL l ∧ madeS (l.take k) = madeS l := by
  unfold madeL madeS
  rw [List.take_take]
  rcases h with rfl | rfl
  · by_cases h : l.length ≤ 3
    · rw [Nat.min_eq_right h, List.take_of_length_le (Nat.le_refl _), List.take_of_length_le h]; exact ⟨rfl, rfl⟩
    · rw [Nat.min_eq_left (by omega)]; exact ⟨rfl, rfl⟩
  · exact ⟨rfl, rfl⟩
end Go.PK

namespace Go.PK
open Go Go.RowKit
end Go.PK

namespace Go.PK
open Go Go.RowKit
def digB8 (c : UInt8) : Bool := decide (48 ≤ c.toNat ∧ c.toNat ≤ 57)
def numF (l : List UInt8) (a : Nat) : Nat := l.foldl (fun a c => 10 * a + (c.toNat - 48)) a
theorem numF_snoc (l : List UInt8) (c : UInt8) (a : Nat) : numF (l ++ [c]) a = 10 * numF l a + (c.toNat - 48) := by simp [numF]
def canonL (l : List UInt8) : Prop := l ≠ [] ∧ (∀ c ∈ l, digB8 c = true) ∧ (1 < l.length → l.head? ≠ some 48)
instance (l : List UInt8) : Decidable (canonL l) := by unfold canonL; infer_instance
theorem dig_of {d : Nat} (h : d < 10) : (UInt8.ofNat (48 + d)).toNat = 48 + d := by
  rw [UInt8.toNat_ofNat_of_lt' (by show _ < 256; omega)]
theorem digB8_of {d : Nat} (h : d < 10) : digB8 (UInt8.ofNat (48 + d)) = true := by
  unfold digB8; rw [dig_of h]; exact decide_eq_true (by omega)
theorem dig_back {c : UInt8} (h : digB8 c = true) : UInt8.ofNat (48 + (c.toNat - 48)) = c := by
  have := of_decide_eq_true h
  rw [show 48 + (c.toNat - 48) = c.toNat by omega]
  exact UInt8.ofNat_toNat
theorem dec_small {u : Nat} (h : u < 10) : Lib.decDigits u = [UInt8.ofNat (48 + u)] := by rw [Lib.decDigits, dif_pos h]
theorem dec_big {u : Nat} (h : ¬u < 10) : Lib.decDigits u = Lib.decDigits (u / 10) ++ [UInt8.ofNat (48 + u % 10)] := by rw [Lib.decDigits, dif_neg h]
theorem dec_num : ∀ (n u : Nat), u ≤ n → numF (Lib.decDigits u) 0 = u
  | 0, u, h => by rw [dec_small (by omega)]; show 10 * 0 + ((UInt8.ofNat (48 + u)).toNat - 48) = u; rw [dig_of (by omega)]; omega
  | n + 1, u, h => by
    by_cases hu : u < 10
    · rw [dec_small hu]; show 10 * 0 + ((UInt8.ofNat (48 + u)).toNat - 48) = u; rw [dig_of hu]; omega
    · rw [dec_big hu, numF_snoc, dec_num n (u / 10) (by omega), dig_of (by omega)]; omega
theorem dec_canon : ∀ (n u : Nat), u ≤ n → canonL (Lib.decDigits u) ∧ (0 < u → (Lib.decDigits u).head? ≠ some 48)
  | n, u, h => by
    by_cases hu : u < 10
    · rw [dec_small hu]
      refine ⟨⟨by simp, fun c hc => by rw [List.mem_singleton.1 hc]; exact digB8_of hu, fun h => by simp at h⟩, fun h0 h1 => ?_⟩
      have h1 : UInt8.ofNat (48 + u) = 48 := by simpa using h1
      have := congrArg UInt8.toNat h1
      rw [dig_of hu] at this
      have e : (48 : UInt8).toNat = 48 := rfl
      omega
    · match n with
      | 0 => omega
      | n + 1 =>
        obtain ⟨⟨a1, a2, a3⟩, a4⟩ := dec_canon n (u / 10) (by omega)
        rw [dec_big hu]
        have hh : (Lib.decDigits (u / 10) ++ [UInt8.ofNat (48 + u % 10)]).head? = (Lib.decDigits (u / 10)).head? := by
          cases hd : Lib.decDigits (u / 10) with
          | nil => exact absurd hd a1
          | cons x l => rfl
        refine ⟨⟨by simp, fun c hc => ?_, fun _ => by rw [hh]; exact a4 (by omega)⟩, fun _ => by rw [hh]; exact a4 (by omega)⟩
        rcases List.mem_append.1 hc with hc | hc
        · exact a2 c hc
        · rw [List.mem_singleton.1 hc]; exact digB8_of (by omega)
theorem canon_dec : ∀ (n : Nat) (l : List UInt8), l.length ≤ n → canonL l → Lib.decDigits (numF l 0) = l
  | 0, l, h, hc => absurd (List.eq_nil_of_length_eq_zero (by omega)) hc.1
  | n + 1, l, h, hc => by
    obtain ⟨h1, h2, h3⟩ := hc
    rcases List.eq_nil_or_concat l with rfl | ⟨m, c, rfl⟩
    · exact absurd rfl h1
    · rw [List.concat_eq_append] at h h2 h3 ⊢
      have hcd : digB8 c = true := h2 c (by simp)
      have hcr := of_decide_eq_true hcd
      rw [numF_snoc]
      by_cases hm : m = []
      · subst hm
        show Lib.decDigits (10 * 0 + (c.toNat - 48)) = [c]
        rw [dec_small (by omega), show 10 * 0 + (c.toNat - 48) = c.toNat - 48 by omega, dig_back hcd]
      · have hcm : canonL m := by
          refine ⟨hm, fun x hx => h2 x (List.mem_append_left _ hx), fun hl => ?_⟩
          have h4 := h3 (by rw [List.length_append, List.length_singleton]; omega)
          cases m with
          | nil => exact absurd rfl hm
          | cons x m => exact h4
        have ih := canon_dec n m (by rw [List.length_append, List.length_singleton] at h; omega) hcm
        have hpos : 0 < numF m 0 := by
          rcases Nat.eq_zero_or_pos (numF m 0) with h0 | h0
          · exfalso
            rw [h0, dec_small (by omega)] at ih
            rw [← ih] at h3
            exact h3 (by simp) rfl
          · exact h0
        rw [dec_big (by omega), show (10 * numF m 0 + (c.toNat - 48)) / 10 = numF m 0 by omega, ih, show (10 * numF m 0 + (c.toNat - 48)) % 10 = c.toNat - 48 by omega, dig_back hcd]
theorem dec_len : ∀ (k u : Nat), (Lib.decDigits u).length ≤ k + 1 ↔ u < 10 ^ (k + 1)
  | 0, u => by
    by_cases hu : u < 10
    · rw [dec_small hu]; simp; omega
    · rw [dec_big hu]
      have := (dec_canon _ (u / 10) (Nat.le_refl _)).1.1
      have h2 := List.length_pos_iff.2 this
      rw [List.length_append, List.length_singleton]
      constructor
      · intro h; omega
      · intro h; simp at h; omega
  | k + 1, u => by
    by_cases hu : u < 10
    · rw [dec_small hu]
      have : 10 ^ 1 ≤ 10 ^ (k + 1 + 1) := Nat.pow_le_pow_right (by decide) (by omega)
      simp; omega
    · rw [dec_big hu, List.length_append, List.length_singleton]
      have ih := dec_len k (u / 10)
      have e : 10 ^ (k + 1 + 1) = 10 * 10 ^ (k + 1) := by rw [Nat.pow_succ, Nat.mul_comm]
      rw [e]
      constructor
      · intro h; have := ih.1 (by omega); omega
      · intro h; have := ih.2 (by omega); omega
theorem parse_ok : ∀ (l : List UInt8) (k a : Nat), (∀ c ∈ l, digB8 c = true) → a < 10 ^ k → k + l.length ≤ 18 → Lib.parseUint10 a l = .ok (numF l a)
  | [], _, _, _, _, _ => rfl
  | c :: l, k, a, hd, ha, hk => by
    have hc := of_decide_eq_true (hd c (List.mem_cons_self ..))
    have e : 10 ^ (k + 1) = 10 * 10 ^ k := by rw [Nat.pow_succ, Nat.mul_comm]
    have hp : 10 ^ (k + 1) ≤ 10 ^ 18 := Nat.pow_le_pow_right (by decide) (by rw [List.length_cons] at hk; omega)
    have hp2 : (10 : Nat) ^ 18 = 1000000000000000000 := by decide
    rw [Lib.parseUint10, if_pos hc, if_neg (by omega), if_neg (by omega)]
    rw [parse_ok l (k + 1) (a * 10 + (c.toNat - 48)) (fun x hx => hd x (List.mem_cons_of_mem _ hx)) (by omega) (by rw [List.length_cons] at hk; omega)]
    show Lib.NumEnd.ok (numF l _) = .ok (numF l (10 * a + (c.toNat - 48)))
    rw [Nat.mul_comm a 10]
theorem atoi_digits {l : List UInt8} (h : canonL l) (hk : l.length ≤ 18) : Lib.atoiAll l = .ok ((numF l 0 : Nat) : Int) := by
  obtain ⟨h1, h2, _⟩ := h
  cases l with
  | nil => exact absurd rfl h1
  | cons c r =>
    have hc := of_decide_eq_true (h2 c (List.mem_cons_self ..))
    have hp := parse_ok (c :: r) 0 0 h2 (by decide) (by omega)
    unfold Lib.atoiAll
    dsimp only
    rw [if_neg (by omega)]
    unfold Lib.parseMag
    rw [if_neg (by simp), hp]
    dsimp only
    have hlt : numF (c :: r) 0 < 10 ^ 18 := by
      have key : ∀ (l : List UInt8) (k a : Nat), (∀ c ∈ l, digB8 c = true) → a < 10 ^ k → numF l a < 10 ^ (k + l.length) := by
        intro l
        induction l with
        | nil => intro k a _ ha; exact ha
        | cons x l ih =>
          intro k a hd ha
          have hx := of_decide_eq_true (hd x (List.mem_cons_self ..))
          have e : 10 ^ (k + 1) = 10 * 10 ^ k := by rw [Nat.pow_succ, Nat.mul_comm]
          have := ih (k + 1) (10 * a + (x.toNat - 48)) (fun y hy => hd y (List.mem_cons_of_mem _ hy)) (by omega)
          rw [List.length_cons, show k + (l.length + 1) = k + 1 + l.length by omega]
          exact this
      have h3 := key (c :: r) 0 0 h2 (by decide)
      have h4 : 10 ^ (0 + (c :: r).length) ≤ 10 ^ 18 := Nat.pow_le_pow_right (by decide) (by omega)
      omega
    have hp2 : (10 : Nat) ^ 18 = 1000000000000000000 := by decide
    rw [if_neg (by omega), if_neg (by omega), if_neg (by omega)]
theorem itoaS_nat (u : Nat) : itoaS (u : Int) = ⟨(Lib.decDigits u).toArray⟩ := by
  unfold itoaS Lib.itoa; rw [if_neg (by omega), Int.toNat_natCast]
theorem itoaS_nn {n : Int} (h : 0 ≤ n) : bl (itoaS n) = Lib.decDigits n.toNat := by
  unfold itoaS Lib.itoa; rw [if_neg (by omega)]; rfl
theorem itoa_canon {n : Int} (h : 0 ≤ n) : canonL (bl (itoaS n)) := by rw [itoaS_nn h]; exact (dec_canon _ _ (Nat.le_refl _)).1
theorem itoa_num {n : Int} (h : 0 ≤ n) : ((numF (bl (itoaS n)) 0 : Nat) : Int) = n := by rw [itoaS_nn h, dec_num _ _ (Nat.le_refl _)]; omega
theorem itoa_sz {n : Int} (h : 0 ≤ n) (k : Nat) : (itoaS n).size ≤ k + 1 ↔ n < 10 ^ (k + 1) := by
  rw [← bl_len, itoaS_nn h, dec_len]
  constructor
  · intro h2
    have h3 : ((n.toNat : Nat) : Int) < ((10 ^ (k + 1) : Nat) : Int) := Int.ofNat_lt.2 h2
    rw [Int.toNat_of_nonneg h] at h3
    simpa using h3
  · intro h2
    have h3 : ((n.toNat : Nat) : Int) < ((10 ^ (k + 1) : Nat) : Int) := by rw [Int.toNat_of_nonneg h]; simpa using h2
    exact Int.ofNat_lt.1 h3
theorem canon_itoa {s : ByteArray} (h : canonL (bl s)) : itoaS ((numF (bl s) 0 : Nat) : Int) = s := by
  rw [itoaS_nat, canon_dec _ _ (Nat.le_refl _) h, bl_str]
theorem bl_app (a b : ByteArray) : bl (a ++ b) = bl a ++ bl b := by
  unfold bl; rw [ByteArray.data_append, Array.toList_append]
theorem dig_ne {c x : UInt8} (h : digB8 c = true) (hx : x.toNat < 48 ∨ 57 < x.toNat) : c ≠ x := fun e => by
  have := of_decide_eq_true h
  rw [e] at this; omega
theorem itoa_ne {n : Int} (h : 0 ≤ n) {x : UInt8} (hx : x.toNat < 48 ∨ 57 < x.toNat) : ∀ c ∈ bl (itoaS n), c ≠ x := fun c hc => dig_ne ((itoa_canon h).2.1 c hc) hx
end Go.PK

namespace Go.PK
open Go Go.RowKit
theorem p3 (a b c : UInt8) (s : ByteArray) : (⟨#[a, b, c]⟩ : ByteArray) ++ s = ((⟨#[a, b]⟩ : ByteArray) ++ ⟨#[c]⟩) ++ s := rfl
theorem p4 (a b c d : UInt8) (s : ByteArray) : (⟨#[a, b, c, d]⟩ : ByteArray) ++ s = ((⟨#[a, b, c]⟩ : ByteArray) ++ ⟨#[d]⟩) ++ s := rfl
theorem c46 : ((46 : UInt8).toNat < 48 ∨ 57 < (46 : UInt8).toNat) := .inl (by decide)
end Go.PK

namespace Go.PK
open Go Go.RowKit
end Go.PK

namespace Go.PK
open Go Go.RowKit
def pf (o : Ord) : Ord := { o with fund := 1 }
end Go.PK

namespace Go.PK
open Go Go.RowKit
theorem take_snoc {α : Type} {ls : List α} {k : Nat} (hk : k < ls.length) : ls.take (k + 1) = ls.take k ++ [ls[k]] := List.take_succ_eq_append_getElem hk
end Go.PK

namespace Go.PK
open Go Go.RowKit
structure Ent where
  fr : Int
  to : Int
  sk : Bool
  day : Int
deriving DecidableEq
def entC (x : Ent) : List Value := [.int .i64 x.fr, .int .i64 x.to, .bool x.sk, .int .i64 x.day]
def entsC (l : List Ent) : List Value := l.flatMap entC
def entIn (x : Ent) : Prop := in64 x.fr ∧ in64 x.to ∧ in64 x.day
def tyEnt : Ty Ent where
  size := 4
  rd := fun _ _ cs x => cs = entC x ∧ entIn x
  len := fun h => by rw [h.1]; rfl
  keep := fun h _ => h
theorem ent_at {D : Nat → Prop} {w : World} {A : Option Addr} {l c : Nat} {xs : List Ent} (h : sliceRd tyEnt D w (.slice A l c) xs) {k : Nat} (hk : k < xs.length) :
    ∃ b off, A = some ⟨b, off, none⟩ ∧ D b ∧ (∀ j (hj : j < (entC xs[k]).length), w.cell? ⟨b, off + k * 4 + j, none⟩ = some (entC xs[k])[j]) ∧ entIn xs[k] := by
  obtain ⟨A', c', e, h1, h2, h3⟩ := h
  injection e with e1 e2 e3
  obtain ⟨b, off, hA, hD, hb, hc⟩ := h3 (by omega)
  obtain ⟨cs, hcs, hr, hok⟩ := hc k hk
  subst hr
  exact ⟨b, off, e1.trans hA, hD, fun j hj => hcs j hj, hok⟩
theorem entsC_len (l : List Ent) : (entsC l).length = l.length * 4 := by
  induction l with
  | nil => rfl
  | cons x xs ih => show (entC x ++ entsC xs).length = _; rw [List.length_append, ih, List.length_cons]; show 4 + _ = _; omega
theorem entsC_one (l : List Ent) : (entsC l).all (fun u => u.oneCell') = true := by
  rw [List.all_eq_true]; intro u hu
  obtain ⟨x, _, hx⟩ := List.mem_flatMap.1 hu
  simp only [entC, List.mem_cons, List.mem_nil_iff, or_false] at hx
  rcases hx with rfl | rfl | rfl | rfl <;> rfl
theorem entsC_app (a b : List Ent) : entsC (a ++ b) = entsC a ++ entsC b := by unfold entsC; rw [List.flatMap_append]
theorem entsC_take : ∀ (l : List Ent) (i : Nat), (entsC l).take (i * 4) = entsC (l.take i)
  | _, 0 => by simp [entsC]
  | [], i + 1 => by simp [entsC]
  | x :: xs, i + 1 => by
    show (entC x ++ entsC xs).take _ = entC x ++ entsC (xs.take i)
    rw [← entsC_take xs i, Nat.add_mul]; rfl
theorem entsC_drop : ∀ (l : List Ent) (i : Nat), (entsC l).drop (i * 4) = entsC (l.drop i)
  | _, 0 => by simp
  | [], i + 1 => by simp [entsC]
  | x :: xs, i + 1 => by
    show (entC x ++ entsC xs).drop _ = entsC (xs.drop i)
    rw [← entsC_drop xs i, Nat.add_mul, Nat.add_comm, ← List.drop_drop]; rfl
theorem ents_rd {D : Nat → Prop} {w : World} {own : List (Nat × Obj)} {ro : List Snap} {e : TypeId} {R : RowS} {es : List Ent} {n : Nat} (hr : rowOK 4 R n (entsC es)) (hn : n = es.length) (hi : ∀ x ∈ es, entIn x)
    (hm : Mem w own ro) (hin : ∀ p ∈ rowO e R, p ∈ own) (hD : ∀ p ∈ rowO e R, D p.1) : sliceRd tyEnt D w (rowV R n) es := by
  subst hn
  have h : RowT tyEnt (fun _ => False) w R es := ⟨es.map entC, by simp, by rw [← List.flatMap_def]; exact hr, fun j h1 h2 => by rw [List.getElem_map]; exact ⟨rfl, hi _ (List.getElem_mem h2)⟩⟩
  exact h.rd hm hin (fun _ h => h.elim) hD rfl
def atoiV (x : ByteArray) : Int := match Lib.atoiAll (bl x) with | .ok n => n | _ => 0
def numOKb (x : ByteArray) : Bool := match Lib.atoiAll (bl x) with | .ok n => decide (0 ≤ n) && decide (x.size ≤ 7) && decide (itoaS n = x) | _ => false
theorem numOK_yes {x : ByteArray} {n : Int} (h : Lib.atoiAll (bl x) = .ok n) : atoiV x = n ∧ numOKb x = (decide (0 ≤ n) && decide (x.size ≤ 7) && decide (itoaS n = x)) := by unfold atoiV numOKb; rw [h]; exact ⟨rfl, rfl⟩
theorem numOK_no {x : ByteArray} (h : ∀ v, Lib.atoiAll (bl x) ≠ .ok v) : numOKb x = false := by
  unfold numOKb
  cases hq : Lib.atoiAll (bl x) with
  | ok v => exact absurd hq (h v)
  | _ => rfl
theorem atoiV_in (x : ByteArray) : in64 (atoiV x) := by
  unfold atoiV
  cases hq : Lib.atoiAll (bl x) with
  | ok v => exact Lib.atoiAll_bounds hq
  | _ => unfold in64; decide
def splitG (s sep : ByteArray) : List ByteArray := Lib.splitB sep 0 (Lib.countB s sep) s
def slash : ByteArray := ⟨#[47]⟩
def numsOf (s : ByteArray) : List Int × Bool := if (splitG s slash).all numOKb then ((splitG s slash).map atoiV, decide ((splitG s slash).length ≤ 4)) else ([], false)
def cutG (s sep : ByteArray) : ByteArray × ByteArray × Bool := (⟨(Lib.cut (bl s) (bl sep)).1.toArray⟩, ⟨(Lib.cut (bl s) (bl sep)).2.1.toArray⟩, (Lib.cut (bl s) (bl sep)).2.2)
theorem num_case {x : ByteArray} {n : Int} {b : Bool} (h1 : b = false → Lib.atoiAll (bl x) = .ok n) (h2 : b = true → ∀ v, Lib.atoiAll (bl x) ≠ .ok v) :
    numOKb x = !(((b || decide (n < 0)) || decide ((x.size : Int) > 7)) || decide (itoaS n ≠ x)) := by
  cases b with
  | true => rw [numOK_no (h2 rfl)]; simp
  | false =>
    rw [(numOK_yes (h1 rfl)).2, Bool.eq_iff_iff]
    simp only [Bool.and_eq_true, decide_eq_true_eq, Bool.false_or, Bool.not_eq_true', Bool.or_eq_false_iff, decide_eq_false_iff_not, ne_eq, Decidable.not_not]
    exact ⟨fun ⟨⟨a, b⟩, c⟩ => ⟨⟨by omega, by omega⟩, c⟩, fun ⟨⟨a, b⟩, c⟩ => ⟨⟨by omega, by omega⟩, c⟩⟩
theorem numsOf_no {s : ByteArray} {k : Nat} (hk : k < (splitG s slash).length) (h : numOKb (splitG s slash)[k] = false) : numsOf s = ([], false) := by
  unfold numsOf
  rw [if_neg fun h2 => ?_]
  have := List.all_eq_true.1 h2 _ (List.getElem_mem hk)
  rw [h] at this; cases this
theorem numsOf_yes {s : ByteArray} (h : ∀ j (hj : j < (splitG s slash).length), numOKb (splitG s slash)[j] = true) : numsOf s = ((splitG s slash).map atoiV, decide ((splitG s slash).length ≤ 4)) := by
  unfold numsOf
  rw [if_pos (List.all_eq_true.2 fun x hx => by obtain ⟨j, hj, rfl⟩ := List.getElem_of_mem hx; exact h j hj)]
def insI (es : List Ent) (to : Int) : Nat := es.findIdx (fun e => decide (to < e.fr))
def insE (es : List Ent) (x : Ent) : List Ent := es.take (insI es x.to) ++ x :: es.drop (insI es x.to)
theorem insI_le (es : List Ent) (to : Int) : insI es to ≤ es.length := List.findIdx_le_length
theorem insI_idx (es : List Ent) (to : Int) : fidx (fun e : Ent => decide (to < e.fr)) es = if insI es to < es.length then ((insI es to : Nat) : Int) else -1 := by
  unfold fidx insI
  rw [List.findIdx?_eq_guard_findIdx_lt]
  by_cases h : List.findIdx (fun e : Ent => decide (to < e.fr)) es < es.length
  · rw [if_pos h]; simp [Option.guard, h]
  · rw [if_neg h]; simp [Option.guard, h]
def takeP (p : Pat) (es : List Ent) (sk : Bool) (f t : List Int) (day : Int) : List Ent × Int :=
  match numP p f, numP p t with
  | some i, some j => if j < i ∨ 100 ≤ j - i then (es, 32) else if es.any (fun e => decide (i ≤ e.to) && decide (e.fr ≤ j)) then (es, 22) else (insE es ⟨i, j, sk, day⟩, 0)
  | _, _ => (es, 32)
def tkR (text : ByteArray) : ByteArray := ⟨(Lib.trimPrefix (bl text) (bl ⟨#[120]⟩)).toArray⟩
def tkA (text : ByteArray) : ByteArray := (cutG (tkR text) ⟨#[45]⟩).1
def tkB (text : ByteArray) : ByteArray := if (cutG (tkR text) ⟨#[45]⟩).2.2 then (cutG (tkR text) ⟨#[45]⟩).2.1 else (cutG (tkR text) ⟨#[45]⟩).1
def tkS (text : ByteArray) : Bool := Lib.hasPrefix (bl text) (bl ⟨#[120]⟩)
def takeQ (p : Pat) (es : List Ent) (text : ByteArray) (day : Int) : List Ent × Int :=
  if (!(numsOf (tkA text)).2 || !(numsOf (tkB text)).2) = true then (es, 11) else if okDay day then takeP p es (tkS text) (numsOf (tkA text)).1 (numsOf (tkB text)).1 day else (es, 1)
theorem trim_sz (s p : List UInt8) : (Lib.trimPrefix s p).length ≤ s.length := by
  unfold Lib.trimPrefix
  split
  · rw [List.length_drop]; omega
  · exact Nat.le_refl _
theorem cutG_le (s sep : ByteArray) : (cutG s sep).1.size ≤ s.size ∧ (cutG s sep).2.1.size ≤ s.size := by
  have e : s.size = (bl s).length := (bl_len s).symm
  unfold cutG Lib.cut
  split
  · constructor
    · show (List.toArray _).size ≤ _; rw [List.size_toArray, e]; exact List.length_take_le' _ _
    · show (List.toArray _).size ≤ _; rw [List.size_toArray, e, List.length_drop]; omega
  · constructor
    · show (List.toArray _).size ≤ _; rw [List.size_toArray, e]; exact Nat.le_refl _
    · exact Nat.zero_le _
theorem tk_sz (text : ByteArray) : (tkR text).size ≤ text.size ∧ (tkA text).size ≤ text.size ∧ (tkB text).size ≤ text.size := by
  have h1 : (tkR text).size ≤ text.size := by
    show (List.toArray _).size ≤ _
    rw [List.size_toArray]
    have := trim_sz (bl text) (bl ⟨#[120]⟩)
    rw [bl_len] at this; exact this
  have h2 := cutG_le (tkR text) ⟨#[45]⟩
  refine ⟨h1, Nat.le_trans h2.1 h1, ?_⟩
  unfold tkB
  split
  · exact Nat.le_trans h2.2 h1
  · exact Nat.le_trans h2.1 h1
theorem numP_rng (p : Pat) (ns : List Int) : 0 ≤ (numP p ns).getD 0 ∧ (numP p ns).getD 0 < 100000 := by
  by_cases h : numC p ns
  · rw [(numP_some h).1]; exact h.2.2.2.2.2
  · rw [(numP_none h).1]; decide
theorem takeP_none {p : Pat} {es : List Ent} {sk : Bool} {f t : List Int} {day : Int} (h : (numP p f).isSome = false ∨ (numP p t).isSome = false) : takeP p es sk f t day = (es, 32) := by
  unfold takeP
  cases hf : numP p f <;> cases ht : numP p t <;> simp [hf, ht] at h ⊢
theorem takeP_some {p : Pat} {es : List Ent} {sk : Bool} {f t : List Int} {day : Int} (h1 : (numP p f).isSome = true) (h2 : (numP p t).isSome = true) :
    takeP p es sk f t day = if (numP p t).getD 0 < (numP p f).getD 0 ∨ 100 ≤ (numP p t).getD 0 - (numP p f).getD 0 then (es, 32) else
      if es.any (fun e => decide ((numP p f).getD 0 ≤ e.to) && decide (e.fr ≤ (numP p t).getD 0)) then (es, 22) else (insE es ⟨(numP p f).getD 0, (numP p t).getD 0, sk, day⟩, 0) := by
  unfold takeP
  cases hf : numP p f <;> cases ht : numP p t <;> simp [hf, ht] at h1 h2 ⊢
theorem put_two {cs A B C : List Value} {a : Nat} (h : cs.take a = A) (ha : A.length = a) (hl : a + B.length + C.length ≤ cs.length) :
    ((cs.take a ++ B ++ cs.drop (a + B.length)).take (a + B.length) ++ C ++ (cs.take a ++ B ++ cs.drop (a + B.length)).drop (a + B.length + C.length)).length = cs.length ∧
    ((cs.take a ++ B ++ cs.drop (a + B.length)).take (a + B.length) ++ C ++ (cs.take a ++ B ++ cs.drop (a + B.length)).drop (a + B.length + C.length)).take (a + B.length + C.length) = A ++ (B ++ C) := by
  have hla : (cs.take a ++ B).length = a + B.length := by rw [h, List.length_append, ha]
  refine ⟨?_, ?_⟩
  · simp only [List.length_append, List.length_take, List.length_drop]; omega
  · rw [show (cs.take a ++ B ++ cs.drop (a + B.length)).take (a + B.length) = cs.take a ++ B from by rw [← hla]; exact List.take_left, h]
    rw [show a + B.length + C.length = (A ++ B ++ C).length by simp [ha]; omega, List.take_left, List.append_assoc]
theorem put_back {cs A B C : List Value} {a : Nat} (h : cs.take a = A) (ha : A.length = a) (hl : a + B.length + C.length ≤ cs.length) :
    ((cs.take (a + B.length) ++ C ++ cs.drop (a + B.length + C.length)).take a ++ B ++ (cs.take (a + B.length) ++ C ++ cs.drop (a + B.length + C.length)).drop (a + B.length)).length = cs.length ∧
    ((cs.take (a + B.length) ++ C ++ cs.drop (a + B.length + C.length)).take a ++ B ++ (cs.take (a + B.length) ++ C ++ cs.drop (a + B.length + C.length)).drop (a + B.length)).take (a + B.length + C.length) = A ++ (B ++ C) := by
  have hla : (cs.take (a + B.length)).length = a + B.length := by rw [List.length_take]; omega
  have e1 : (cs.take (a + B.length) ++ C ++ cs.drop (a + B.length + C.length)).take a = A := by
    rw [List.append_assoc, List.take_append_of_le_length (by omega), List.take_take, Nat.min_eq_left (by omega), h]
  have e2 : (cs.take (a + B.length) ++ C ++ cs.drop (a + B.length + C.length)).drop (a + B.length) = C ++ cs.drop (a + B.length + C.length) := by
    rw [List.append_assoc]
    have h9 := List.drop_left (l₁ := cs.take (a + B.length)) (l₂ := C ++ cs.drop (a + B.length + C.length))
    rw [hla] at h9
    exact h9
  rw [e1, e2]
  refine ⟨?_, ?_⟩
  · simp only [List.length_append, List.length_drop]; omega
  · rw [show A ++ B ++ (C ++ cs.drop (a + B.length + C.length)) = (A ++ (B ++ C)) ++ cs.drop (a + B.length + C.length) by simp [List.append_assoc], show a + B.length + C.length = (A ++ (B ++ C)).length by simp [ha]; omega]
    exact List.take_left
theorem ents_at {es : List Ent} {cs : List Value} (h : cs.take (es.length * 4) = entsC es) {i : Nat} (hi : i ≤ es.length) : cs.take (i * 4) = entsC (es.take i) := by
  rw [← entsC_take, ← h, List.take_take, Nat.min_eq_left (by omega)]
theorem ents_get {es : List Ent} {cs : List Value} (h : cs.take (es.length * 4) = entsC es) (hl : es.length * 4 ≤ cs.length) {i : Nat} (hi : i ≤ es.length) {j : Nat} (hj : j < (entsC (es.drop i)).length) : cs[i * 4 + j]? = some (entsC (es.drop i))[j] := by
  have hlen : (entsC (es.drop i)).length = (es.length - i) * 4 := by rw [entsC_len, List.length_drop]
  have e : (entsC (es.drop i))[j]? = cs[i * 4 + j]? := by
    rw [← entsC_drop, ← h, List.getElem?_drop, List.getElem?_take_of_lt (by omega)]
  rw [← e]; exact List.getElem?_eq_getElem hj
end Go.PK

namespace Go.PK
open Go Go.RowKit
inductive Pl where
  | done
  | flt (i : Nat) (t : Pl)
  | gr (i : Nat) (t e : Pl)
  | nil
def Pl.heads : Pl → List Nat
  | .gr i _ e => i :: e.heads
  | _ => []
section
variable {P : Program} {ops : Array Oper} {md : Region.Mode}
def wpT (P : Program) (ops : Array Oper) (K : Act → World → Prop) : Pl → Act → World → Prop
  | .done, a, w => K a w
  | .flt i t, a, w => match ops[i]? with
    | none => False
    | some o => if Region.wanted o (yielded ops a.tmps) then flt P o a w (fun a' => wpT P ops K t a' w) else wpT P ops K t (a.put o.dst undef) w
  | .gr i t e, a, w => (match ops[i]? with
    | none => False
    | some o => if Region.wanted o (yielded ops a.tmps) then grw P o a w (wpT P ops K t) else wpT P ops K t (a.put o.dst undef) w) ∧ wpT P ops K e a w
  | .nil, _, _ => True
def treeB (md : Region.Mode) (ops : Array Oper) (n : Nat) : Bool → Nat → Pl → Array Bool → Bool
  | alt, f, .done, listed => !alt && decide (f = 0) && Region.seqB md ops (ops.size - n) n listed
  | alt, f, .flt i t, listed => !alt && decide (0 < f) && decide (i < n) && (Region.ready md ops listed).contains i && Region.free md ops listed i && treeB md ops n false (f - 1) t (listed.setIfInBounds i true)
  | alt, f, .gr i t e, listed => (alt || ((Region.ready md ops listed).all (fun j => ((Pl.gr i t e).heads).contains j) && !(Region.ready md ops listed).isEmpty)) && decide (0 < f) && decide (i < n) && treeB md ops n false (f - 1) t (listed.setIfInBounds i true) && treeB md ops n true f e listed
  | alt, _, .nil, _ => alt
theorem wpAnyC_tree {n : Nat} {Q : Act → World → Prop} (hQ : ∀ a w w', Later w w' → Q a w → Q a w') (hsel : Region.noSelect ops = true)
    (hnt : ∀ i, i < n → ∀ listed, HeadInv md ops n listed → listed.getD i true = false → ∀ j ∈ Region.ready md ops listed, j < n) :
    ∀ (t : Pl) (f : Nat) (listed : Array Bool) (a : Act) (w : World), HeadInv md ops n listed →
      (treeB md ops n false f t listed = true → wpT P ops Q t a w → wpAnyC P md ops n (fun listed' a' w' => Region.seqB md ops (ops.size - n) n listed' = true ∧ Q a' w') f listed a w) ∧
      (treeB md ops n true f t listed = true → wpT P ops Q t a w → ∀ j ∈ t.heads, j ∈ Region.ready md ops listed → 0 < f ∧ j < n ∧ canOp P ops j (wpAnyC P md ops n (fun listed' a' w' => Region.seqB md ops (ops.size - n) n listed' = true ∧ Q a' w') (f - 1) (listed.setIfInBounds j true)) a w)
  | .done, f, listed, a, w, _ => ⟨fun hB h => by
      simp only [treeB, Bool.and_eq_true, decide_eq_true_eq] at hB
      obtain ⟨⟨_, rfl⟩, hB⟩ := hB
      exact ⟨hB, h⟩, fun hB => by simp [treeB] at hB⟩
  | .flt i t, f, listed, a, w, inv => ⟨fun hB h => by
      simp only [treeB, Bool.and_eq_true, decide_eq_true_eq] at hB
      obtain ⟨⟨⟨⟨⟨_, hf⟩, hin⟩, hr⟩, hfr⟩, hB'⟩ := hB
      obtain ⟨g, rfl⟩ : ∃ g, f = g + 1 := ⟨f - 1, by omega⟩
      have hr' : i ∈ Region.ready md ops listed := by simpa using hr
      unfold wpT at h
      cases ho : ops[i]? with
      | none => simp only [ho] at h
      | some o =>
        simp only [ho] at h
        obtain ⟨v, hy, hK⟩ : ∃ v, YieldsC P ops o v a w ∧ wpT P ops Q t (a.put o.dst v) w := by
          by_cases hw : Region.wanted o (yielded ops a.tmps) = true
          · rw [if_pos hw] at h
            obtain ⟨v, h1, h2⟩ := h
            exact ⟨v, .inl ⟨hw, h1⟩, h2⟩
          · rw [if_neg hw] at h
            exact ⟨undef, .inr ⟨by simpa using hw, rfl⟩, h⟩
        exact wpAnyC_first (fun _ _ _ _ hw hq => ⟨hq.1, hQ _ _ _ hw hq.2⟩) ho (Region.noSelect_spec hsel) (hnt i hin) (fun _ _ _ hL => seqB_ready hL.1) hin g listed a w inv (Region.free_spec ho hfr) hr' hy
          ((wpAnyC_tree hQ hsel hnt t g _ _ _ (inv.set hr' hin)).1 (by simpa using hB') hK), fun hB => by simp [treeB] at hB⟩
  | .gr i t e, f, listed, a, w, inv => by
      have alt : ∀ alt, treeB md ops n alt f (.gr i t e) listed = true → wpT P ops Q (.gr i t e) a w → ∀ j ∈ (Pl.gr i t e).heads, j ∈ Region.ready md ops listed → 0 < f ∧ j < n ∧ canOp P ops j (wpAnyC P md ops n (fun listed' a' w' => Region.seqB md ops (ops.size - n) n listed' = true ∧ Q a' w') (f - 1) (listed.setIfInBounds j true)) a w := by
        intro alt hB h j hj hjr
        simp only [treeB, Bool.and_eq_true, decide_eq_true_eq] at hB
        obtain ⟨⟨⟨⟨_, hf⟩, hin⟩, hB1⟩, hB2⟩ := hB
        unfold wpT at h
        obtain ⟨h1, h2⟩ := h
        simp only [Pl.heads, List.mem_cons] at hj
        by_cases hji : j = i
        · subst hji
          refine ⟨hf, hin, fun w' hw' => ?_⟩
          cases ho : ops[j]? with
          | none => simp only [ho] at h1
          | some o =>
            simp only [ho] at h1
            unfold wpOp
            simp only [ho]
            by_cases hw : Region.wanted o (yielded ops a.tmps) = true
            · rw [if_pos hw] at h1 ⊢
              exact .inl (Oper.wp_mono (fun a' w2 hk => ⟨hk.1, (wpAnyC_tree hQ hsel hnt t _ _ _ _ (inv.set hjr hin)).1 hB1 hk.2⟩) (h1 w' hw'))
            · rw [if_neg hw] at h1 ⊢
              exact ⟨Later.refl _, wpAnyC_later (fun _ _ _ _ hw hq => ⟨hq.1, hQ _ _ _ hw hq.2⟩) _ _ _ _ _ hw' ((wpAnyC_tree hQ hsel hnt t _ _ _ _ (inv.set hjr hin)).1 hB1 h1)⟩
        · have hj' : j ∈ e.heads := by rcases hj with h | h; exact absurd h hji; exact h
          exact (wpAnyC_tree hQ hsel hnt e f listed a w inv).2 hB2 h2 j hj' hjr
      refine ⟨fun hB h => ?_, alt true⟩
      have hB0 := hB
      simp only [treeB, Bool.and_eq_true, decide_eq_true_eq, Bool.false_or] at hB
      obtain ⟨⟨⟨⟨⟨hall, hne⟩, hf⟩, _⟩, _⟩, _⟩ := hB
      obtain ⟨g, rfl⟩ : ∃ g, f = g + 1 := ⟨f - 1, by omega⟩
      refine ⟨fun h0 => by rw [h0] at hne; simp at hne, fun j hj => ?_⟩
      have hjh : j ∈ (Pl.gr i t e).heads := by simpa using List.all_eq_true.1 hall j hj
      exact (alt false hB0 h j hjh hj).2
  | .nil, f, listed, a, w, _ => ⟨fun hB => by simp [treeB] at hB, fun _ _ j hj => by simp [Pl.heads] at hj⟩
theorem wp_region_tree {id : Nat} {Q : Exit → Act → World → Prop} {a : Act} {w : World} {l : List Oper} (n : Nat) (t : Pl) (hm : P.follows .mixedOrders = true)
    (hB : (Region.noSelect l.toArray && (decide (n = l.toArray.size) || (decide (n < l.toArray.size) && Region.sinkB .any l.toArray n && Region.chainB .any l.toArray n)) && treeB .any l.toArray n false n t (Array.replicate l.toArray.size false)) = true)
    (h : wpT P l.toArray (fun a' w' => ∀ w'', Later w' w'' → wpList P l.toArray Q (l.drop n) a' w'') t a w) : (Code.region id l.toArray true).wp P Q a w := by
  simp only [Bool.and_eq_true] at hB
  obtain ⟨⟨hsel, hn⟩, hpl⟩ := hB
  have hnle : n ≤ l.toArray.size := by
    rcases Bool.or_eq_true _ _ ▸ hn with hn | hn
    · simp only [decide_eq_true_eq] at hn; omega
    · simp only [Bool.and_eq_true, decide_eq_true_eq] at hn; omega
  have hnt : ∀ i, i < n → ∀ listed, HeadInv .any l.toArray n listed → listed.getD i true = false → ∀ j ∈ Region.ready .any l.toArray listed, j < n := by
    intro i hin listed inv hun j hj
    rcases Bool.or_eq_true _ _ ▸ hn with hn | hn
    · simp only [decide_eq_true_eq] at hn
      have := ready_lt j hj
      omega
    · simp only [Bool.and_eq_true, decide_eq_true_eq] at hn
      obtain ⟨⟨hn, hs⟩, hc⟩ := hn
      rcases Nat.lt_or_ge j n with h | h
      · exact h
      · exact absurd hj (tail_waits hs hc hn inv _ i rfl hin hun j h)
  have inv0 : HeadInv .any l.toArray n (Array.replicate l.toArray.size false) :=
    ⟨by simp, fun j oj _ hl => (by rw [getD_replicate_false] at hl; cases hl), fun t _ ht => getD_in (by simpa using ht) (getD_replicate_false _ _)⟩
  have H := (wpAnyC_tree (P := P) (md := .any) (Q := fun a' w' => ∀ w'', Later w' w'' → wpList P l.toArray Q (l.drop n) a' w'') (fun a w w' hw hq w'' hw'' => hq w'' (hw.trans hw'')) hsel hnt t n _ a w inv0).1 hpl h
  refine wp_region_any hm ?_
  have hdl : (l.drop n).length = l.toArray.size - n := by simp
  have := wpAny_of_can (Q' := Q) (g := l.toArray.size - n) (fun listed a' w' hL => by
    have := wpAny_of_seq (md := .any) (Q' := Q) (l.drop n) n listed a' w' (fun j => by simp [List.getElem?_drop]) (by rw [hdl]; exact hL.1) (hL.2 w' (Later.refl _))
    rwa [hdl] at this) _ _ _ _ (wpAnyC_later (fun _ _ _ _ hw hq => ⟨hq.1, fun w2 h2 => hq.2 w2 (hw.trans h2)⟩) _ _ _ _ _ (Later.drew w) H)
  rw [show n + (l.toArray.size - n) = l.toArray.size by omega] at this
  exact this
end
section
variable {P : Program} {n : Nat} {l : List (Nat × Value)} {own : List (Nat × Obj)} {ro : List Snap}
theorem rg_tree {id : Nat} {Q : Exit → Act → World → Prop} {lops : List Oper} (m : Nat) (t : Pl) (hm : P.follows .mixedOrders = true)
    (hB : (Region.noSelect lops.toArray && (decide (m = lops.toArray.size) || (decide (m < lops.toArray.size) && Region.sinkB .any lops.toArray m && Region.chainB .any lops.toArray m)) && treeB .any lops.toArray m false m t (Array.replicate lops.toArray.size false)) = true)
    (h : S (wpT P lops.toArray (fun a' w' => ∀ w'', Later w' w'' → wpList P lops.toArray Q (lops.drop m) a' w'') t) n l own ro) : W P (.region id lops.toArray true) Q n l own ro :=
  fun a w ha hw => wp_region_tree m t hm hB (h a w ha hw)
variable {ops : Array Oper} {Q : Exit → Act → World → Prop} {K : Act → World → Prop} {i : Nat} {t e : Pl}
theorem t_flt (h : WX P ops Q (wpT P ops K t) [(some true, i)] n l own ro) : S (wpT P ops K (.flt i t)) n l own ro := fun a w ha hw => by
  have h := h a w ha hw
  unfold wpT
  simp only [wpX] at h
  split <;> rename_i ho <;> simp only [ho] at h
  split <;> rename_i hw'
  · rw [if_pos hw'] at h
    obtain ⟨v, h1, h2⟩ := h
    exact ⟨v, h1, h2 w (Later.refl _)⟩
  · rw [if_neg hw'] at h
    exact h w (Later.refl _)
theorem t_gr (h : WX P ops Q (wpT P ops K t) [(some false, i)] n l own ro) (he : S (wpT P ops K e) n l own ro) : S (wpT P ops K (.gr i t e)) n l own ro := fun a w ha hw => by
  have h := h a w ha hw
  unfold wpT
  refine ⟨?_, he a w ha hw⟩
  simp only [wpX] at h
  split <;> rename_i ho <;> simp only [ho] at h
  split <;> rename_i hw'
  · rw [if_pos hw'] at h
    exact fun w2 h2 => Oper.wp_mono (fun a' w' hk => ⟨hk.1, hk.2 w' (Later.refl _)⟩) (h w2 h2)
  · rw [if_neg hw'] at h
    exact h w (Later.refl _)
theorem t_nil : S (wpT P ops K .nil) n l own ro := fun _ _ _ _ => trivial
theorem t_done {lops : List Oper} {m : Nat} (h : WX P lops.toArray Q (fun a w => Q .normal a w) (tailFrom m lops.length) n l own ro) :
    S (wpT P lops.toArray (fun a' w' => ∀ w'', Later w' w'' → wpList P lops.toArray Q (lops.drop m) a' w'') .done) n l own ro :=
  fun a w ha hw w2 h2 => wpList_of_X _ m a w2 rfl (wpX_later h2 (h a w ha hw))
end
end Go.PK

namespace Go.PK
open Go Go.RowKit
section
variable {P : Program} {ops : Array Oper} {md : Region.Mode} {w0 : World}
def canOp0 (P : Program) (ops : Array Oper) (w0 : World) (i : Nat) (K : Act → World → Prop) (a : Act) (w : World) : Prop :=
  ∀ w', Later w w' → Later w0 w' → wpOp P ops (fun _ _ _ => False) i (fun a'' w'' => Later w0 w'' ∧ K a'' w'') a w'
def Yields0 (P : Program) (ops : Array Oper) (w0 : World) (o : Oper) (v : Value) (a : Act) : Prop :=
  (Region.wanted o (yielded ops a.tmps) = true ∧ ∀ w', Later w0 w' → fltAt P o a w' v) ∨ (Region.wanted o (yielded ops a.tmps) = false ∧ v = undef)
theorem Yields0.of_same {o : Oper} {v : Value} {a a' : Act} (hy : Yields0 P ops w0 o v a) (he : execOp a'.eval o = execOp a.eval o)
    (hw : Region.wanted o (yielded ops a'.tmps) = Region.wanted o (yielded ops a.tmps)) : Yields0 P ops w0 o v a' := by
  unfold Yields0 fltAt at *
  rw [he, hw]
  exact hy
theorem Yields0.canOp {i : Nat} {o : Oper} {v : Value} {a : Act} {w : World} (hi : ops[i]? = some o) (hy : Yields0 P ops w0 o v a) {K : Act → World → Prop}
    (h : ∀ w', Later w w' → K (a.put o.dst v) w') : canOp0 P ops w0 i K a w := by
  intro w' hw' h0
  unfold Go.wpOp
  simp only [hi]
  rcases hy with ⟨hw, hv⟩ | ⟨hw, rfl⟩
  · rw [if_pos hw]
    refine .inl ?_
    have h3 := hv w' h0
    unfold fltAt at h3
    unfold Oper.wp
    generalize (execOp a.eval o).run P w' = r at *
    cases r with
    | ok n w1 =>
      cases n <;> simp only [fltUpon] at h3 <;> simp only [Oper.upon]
      case value u => obtain ⟨rfl, rfl⟩ := h3; exact ⟨h0, h _ hw'⟩
      case skip => obtain ⟨rfl, rfl⟩ := h3; exact ⟨h0, h _ hw'⟩
      case enter f args =>
        obtain ⟨rfl, hc⟩ := h3
        exact hc.mono fun e w2 ⟨he, hl⟩ => by subst he; exact ⟨h0.trans hl, h _ (hw'.trans hl)⟩
    | halt x w1 => simp only [fltUpon] at h3
  · rw [if_neg (by rw [hw]; exact Bool.false_ne_true)]
    exact ⟨h0, h _ hw'⟩
end
section
variable {P : Program} {n : Nat} {l : List (Nat × Value)} {own : List (Nat × Obj)} {ro : List Snap}
theorem Mem.frozen {w : World} (h : Mem w own ro) : Mem w [] ((w, fun _ => True) :: ro) where
  own_at := fun p hp => by cases hp
  own_nd := by simp
  ro_st := fun s hs => by
    rcases List.mem_cons.1 hs with rfl | hs
    · exact ⟨rfl, rfl, rfl, Nat.le_refl _⟩
    · exact h.ro_st s hs
  ro_at := fun s hs k hk hlt => by
    rcases List.mem_cons.1 hs with rfl | hs
    · rfl
    · exact h.ro_at s hs k hk hlt
  apart := fun p hp => by cases hp
variable {ops : Array Oper} {Q : Exit → Act → World → Prop} {K : Act → World → Prop} {i : Nat} {t e : Pl} {w0 : World}
end
end Go.PK

namespace Go.PK
open Go Go.RowKit
section
variable {P : Program} {ops : Array Oper} {md : Region.Mode} {oF : List (Nat × Obj)} {rF : List Snap}
def canOpJ (P : Program) (ops : Array Oper) (oF : List (Nat × Obj)) (rF : List Snap) (i : Nat) (K : Act → World → Prop) (a : Act) (w : World) : Prop :=
  ∀ w', Later w w' → Mem w' oF rF → wpOp P ops (fun _ _ _ => False) i (fun a'' w'' => Mem w'' oF rF ∧ K a'' w'') a w'
theorem canOpJ_mono {i : Nat} {a : Act} {w : World} {K K' : Act → World → Prop} (h : ∀ a w, K a w → K' a w) (hh : canOpJ P ops oF rF i K a w) : canOpJ P ops oF rF i K' a w :=
  fun w' hw h0 => wpOp_mono (fun _ _ hk => ⟨hk.1, h _ _ hk.2⟩) (hh w' hw h0)
theorem canOpJ_later {i : Nat} {a : Act} {w w1 : World} {K : Act → World → Prop} (hw : Later w w1) (hh : canOpJ P ops oF rF i K a w) : canOpJ P ops oF rF i K a w1 :=
  fun w' hw' h0 => hh w' (hw.trans hw') h0
def wpAnyJ (P : Program) (md : Region.Mode) (ops : Array Oper) (oF : List (Nat × Obj)) (rF : List Snap) (n : Nat) (L : Array Bool → Act → World → Prop) : Nat → Array Bool → Act → World → Prop
  | 0, listed, a, w => L listed a w
  | f + 1, listed, a, w => Region.ready md ops listed ≠ [] ∧ ∀ i ∈ Region.ready md ops listed, i < n ∧ canOpJ P ops oF rF i (wpAnyJ P md ops oF rF n L f (listed.setIfInBounds i true)) a w
theorem wpAnyJ_later {n : Nat} {L : Array Bool → Act → World → Prop} (hL : LaterClosed L) : ∀ (f : Nat) (listed : Array Bool) (a : Act) (w w' : World), Later w w' →
    wpAnyJ P md ops oF rF n L f listed a w → wpAnyJ P md ops oF rF n L f listed a w'
  | 0, _, _, _, _, h, hh => hL _ _ _ _ h hh
  | _ + 1, _, _, _, _, h, hh => ⟨hh.1, fun i hi => ⟨(hh.2 i hi).1, canOpJ_later h (hh.2 i hi).2⟩⟩
theorem wpAny_of_canJ {n g : Nat} {L : Array Bool → Act → World → Prop} {Q' : Exit → Act → World → Prop} (hL : ∀ listed a w, Mem w oF rF → L listed a w → wpAny P md ops Q' g listed a w) :
    ∀ (f : Nat) (listed : Array Bool) (a : Act) (w : World), Mem w oF rF → wpAnyJ P md ops oF rF n L f listed a w → wpAny P md ops Q' (f + g) listed a w
  | 0, listed, a, w, h0, h => by rw [Nat.zero_add]; exact hL _ _ _ h0 h
  | f + 1, listed, a, w, h0, h => by
    rw [show f + 1 + g = (f + g) + 1 by omega]
    refine ⟨fun he => absurd he h.1, fun i hi => ?_⟩
    have h1 := (h.2 i hi).2 w (Later.refl w) h0
    have h2 : wpOp P ops (fun _ _ _ => False) i (wpAny P md ops Q' (f + g) (listed.setIfInBounds i true)) a w :=
      wpOp_mono (fun a' w' h' => wpAny_of_canJ hL f _ a' w' h'.1 h'.2) h1
    unfold wpOp at h2 ⊢
    split
    · rename_i ho; simp only [ho] at h2; exact h2
    · rename_i o ho
      simp only [ho] at h2
      split
      · rename_i hw
        simp only [hw, if_true] at h2
        rcases h2 with h2 | ⟨_, _, _, h2⟩
        · refine .inl ?_
          unfold Oper.wp at h2 ⊢
          generalize (execOp a.eval o).run P w = r at *
          cases r with
          | ok x w' =>
            cases x <;> simp only [Oper.upon] at h2 ⊢ <;> first
              | exact h2
              | (refine Calls.mono h2 fun e w'' he => ?_
                 cases e with
                 | returned u => exact he
                 | panicked c => exact he.elim
                 | outgrown => obtain ⟨_, _, hf⟩ := he; exact hf.elim)
          | halt x w' => cases x <;> simp only [Oper.upon] at h2 ⊢
        · exact h2.elim
      · rename_i hw
        simp only [hw] at h2
        exact h2
def YieldsJ (P : Program) (ops : Array Oper) (oF : List (Nat × Obj)) (rF : List Snap) (o : Oper) (v : Value) (a : Act) : Prop :=
  (Region.wanted o (yielded ops a.tmps) = true ∧ ∀ w', Mem w' oF rF → fltAt P o a w' v) ∨ (Region.wanted o (yielded ops a.tmps) = false ∧ v = undef)
theorem YieldsJ.of_same {o : Oper} {v : Value} {a a' : Act} (hy : YieldsJ P ops oF rF o v a) (he : execOp a'.eval o = execOp a.eval o)
    (hw : Region.wanted o (yielded ops a'.tmps) = Region.wanted o (yielded ops a.tmps)) : YieldsJ P ops oF rF o v a' := by
  unfold YieldsJ fltAt at *
  rw [he, hw]
  exact hy
theorem YieldsJ.canOp {i : Nat} {o : Oper} {v : Value} {a : Act} {w : World} (hi : ops[i]? = some o) (hy : YieldsJ P ops oF rF o v a) {K : Act → World → Prop}
    (h : ∀ w', Later w w' → K (a.put o.dst v) w') : canOpJ P ops oF rF i K a w := by
  intro w' hw' h0
  unfold Go.wpOp
  simp only [hi]
  rcases hy with ⟨hw, hv⟩ | ⟨hw, rfl⟩
  · rw [if_pos hw]
    refine .inl ?_
    have h3 := hv w' h0
    unfold fltAt at h3
    unfold Oper.wp
    generalize (execOp a.eval o).run P w' = r at *
    cases r with
    | ok n w1 =>
      cases n <;> simp only [fltUpon] at h3 <;> simp only [Oper.upon]
      case value u => obtain ⟨rfl, rfl⟩ := h3; exact ⟨h0, h _ hw'⟩
      case skip => obtain ⟨rfl, rfl⟩ := h3; exact ⟨h0, h _ hw'⟩
      case enter f args =>
        obtain ⟨rfl, hc⟩ := h3
        exact hc.mono fun e w2 ⟨he, hl⟩ => by subst he; exact ⟨Mem.later h0 hl, h _ (hw'.trans hl)⟩
    | halt x w1 => simp only [fltUpon] at h3
  · rw [if_neg (by rw [hw]; exact Bool.false_ne_true)]
    exact ⟨h0, h _ hw'⟩
theorem canOp_putJ {j : Nat} {oi oj : Oper} {v : Value} (hj : ops[j]? = some oj) (hap : oi.apart ops oj = true)
    (hsi : ∀ cs b, oi.op ≠ .select cs b) (hsj : ∀ cs b, oj.op ≠ .select cs b) {K : Act → World → Prop} {a : Act} {w : World}
    (hy : YieldsJ P ops oF rF oi v a) (h : canOpJ P ops oF rF j K (a.put oi.dst v) w) :
    canOpJ P ops oF rF j (fun a' w' => YieldsJ P ops oF rF oi v a' ∧ K (a'.put oi.dst v) w') a w := by
  obtain ⟨h1, h2, h3⟩ := Oper.apart_spec hap
  intro w' hw' h0
  have keep : ∀ (a : Act), YieldsJ P ops oF rF oi v a → ∀ u, YieldsJ P ops oF rF oi v (a.put oj.dst u) := fun a hy u =>
    hy.of_same (execOp_put oi hsi a oj.dst u h3) (wanted_put oi a oj.dst u h3)
  have keepD : ∀ d, YieldsJ P ops oF rF oi v { a with defers := d :: a.defers } := fun d => hy.of_same rfl rfl
  have h := h w' hw' h0
  unfold Go.wpOp at *
  simp only [hj] at *
  rw [wanted_put oj a oi.dst v h1] at h
  split
  · rename_i hw
    simp only [hw, if_true] at h
    rcases h with h | ⟨hasks, _, _, hlets⟩
    case inr => exact hlets.elim
    refine .inl ?_
    unfold Oper.wp at *
    rw [execOp_put oj hsj a oi.dst v h1] at h
    generalize (execOp a.eval oj).run P w' = r at *
    cases r with
    | ok n w1 =>
      cases n <;> simp only [Oper.upon] at h ⊢
      case value u => exact ⟨h.1, keep a hy u, by rw [← Act.put_comm a v u h2]; exact h.2⟩
      case skip => exact ⟨h.1, keep a hy _, by rw [← Act.put_comm a v undef h2]; exact h.2⟩
      case defer d =>
        refine ⟨h.1, keep _ (keepD d) _, ?_⟩
        rw [← Act.put_comm _ v undef h2, ← Act.put_defers]
        exact h.2
      case enter f args =>
        refine Calls.mono h fun e w2 he => ?_
        cases e with
        | returned u => exact ⟨he.1, keep a hy u, by rw [← Act.put_comm a v u h2]; exact he.2⟩
        | panicked c => exact he
        | outgrown => exact he
      case row row args => exact Rows.mono h fun u w2 he => ⟨he.1, keep a hy u, by rw [← Act.put_comm a v u h2]; exact he.2⟩
    | halt x w1 =>
      cases x <;> simp only [Oper.upon] at h ⊢
  · rename_i hw
    simp only [hw] at h
    exact ⟨h.1, keep a hy _, by rw [← Act.put_comm a v undef h2]; exact h.2⟩
theorem wpAnyJ_first {n i : Nat} {oi : Oper} {v : Value} {L : Array Bool → Act → World → Prop} (hL : LaterClosed L) (hi : ops[i]? = some oi) (hsel : ∀ (j : Nat) (o : Oper) cs b, ops[j]? = some o → o.op ≠ .select cs b)
    (hnt : ∀ listed, HeadInv md ops n listed → listed.getD i true = false → ∀ j ∈ Region.ready md ops listed, j < n)
    (hdone : ∀ listed a w, L listed a w → ∀ j ∈ Region.ready md ops listed, n ≤ j) (hin : i < n) :
    ∀ (f : Nat) (listed : Array Bool) (a : Act) (w : World), HeadInv md ops n listed →
      (∀ j oj, ops[j]? = some oj → j ≠ i → listed.getD j true = false → (∀ e ∈ oj.after, Region.binds md e = true → e.on ≠ i) → oi.apart ops oj = true) →
      i ∈ Region.ready md ops listed → YieldsJ P ops oF rF oi v a →
      wpAnyJ P md ops oF rF n L f (listed.setIfInBounds i true) (a.put oi.dst v) w → wpAnyJ P md ops oF rF n L (f + 1) listed a w := by
  intro f
  induction f with
  | zero =>
    intro listed a w inv _ hr hy H
    have hun := (mem_ready.1 hr).1
    refine ⟨fun h => (by rw [h] at hr; cases hr), fun j hj => ?_⟩
    have hjn := hnt listed inv hun j hj
    refine ⟨hjn, ?_⟩
    by_cases hji : j = i
    · subst hji; exact hy.canOp hi fun w' hw' => hL _ _ _ _ hw' H
    · have := hdone _ _ _ H j (ready_mono hj hji)
      omega
  | succ f ih =>
    intro listed a w inv hfree hr hy H
    have hun := (mem_ready.1 hr).1
    refine ⟨fun h => (by rw [h] at hr; cases hr), fun j hj => ?_⟩
    have hjn := hnt listed inv hun j hj
    refine ⟨hjn, ?_⟩
    by_cases hji : j = i
    · subst hji; exact hy.canOp hi fun w' hw' => wpAnyJ_later hL _ _ _ _ _ hw' H
    · have h1 := (H.2 j (ready_mono hj hji)).2
      obtain ⟨hjun, oj, hoj, hall⟩ := mem_ready.1 hj
      have hnot : ∀ e ∈ oj.after, Region.binds md e = true → e.on ≠ i := fun e he hb heq => by
        have h1 := hall e he hb
        rw [heq, getD_both hun] at h1
        cases h1
      have h2 := canOp_putJ hoj (hfree j oj hoj hji hjun hnot) (fun cs b => hsel i oi cs b hi) (fun cs b => hsel j oj cs b hoj) hy h1
      have hfree' : ∀ k ok, ops[k]? = some ok → k ≠ i → (listed.setIfInBounds j true).getD k true = false →
          (∀ e ∈ ok.after, Region.binds md e = true → e.on ≠ i) → oi.apart ops ok = true := fun k ok hk hki hun hno => by
        refine hfree k ok hk hki ?_ hno
        by_cases hjk : j = k
        · subst hjk; exact hjun
        · rw [getD_set_ne true hjk] at hun; exact hun
      refine canOpJ_mono (fun a' w' h3 => ih (listed.setIfInBounds j true) a' w' (inv.set hj hjn) hfree' (ready_mono hr (Ne.symm hji)) h3.1 ?_) h2
      rw [Array.setIfInBounds_comm _ _ hji]
      exact h3.2
def wpJ (P : Program) (ops : Array Oper) (oF : List (Nat × Obj)) (rF : List Snap) (K : Act → World → Prop) : Pl → Act → World → Prop
  | .done, a, w => K a w
  | .flt i t, a, w => match ops[i]? with
    | none => False
    | some o => if Region.wanted o (yielded ops a.tmps) then ∃ v, (∀ w', Mem w' oF rF → fltAt P o a w' v) ∧ wpJ P ops oF rF K t (a.put o.dst v) w else wpJ P ops oF rF K t (a.put o.dst undef) w
  | .gr i t e, a, w => (match ops[i]? with
    | none => False
    | some o => if Region.wanted o (yielded ops a.tmps) then ∀ w', Later w w' → o.wp P a w' (fun a'' w'' => Mem w'' oF rF ∧ wpJ P ops oF rF K t a'' w'') (fun _ _ _ => False) else wpJ P ops oF rF K t (a.put o.dst undef) w) ∧ wpJ P ops oF rF K e a w
  | .nil, _, _ => True
theorem wpAnyJ_tree {n : Nat} {Q : Act → World → Prop} (hQ : ∀ a w w', Later w w' → Q a w → Q a w') (hsel : Region.noSelect ops = true)
    (hnt : ∀ i, i < n → ∀ listed, HeadInv md ops n listed → listed.getD i true = false → ∀ j ∈ Region.ready md ops listed, j < n) :
    ∀ (t : Pl) (f : Nat) (listed : Array Bool) (a : Act) (w : World), HeadInv md ops n listed →
      (treeB md ops n false f t listed = true → wpJ P ops oF rF Q t a w → wpAnyJ P md ops oF rF n (fun listed' a' w' => Region.seqB md ops (ops.size - n) n listed' = true ∧ Q a' w') f listed a w) ∧
      (treeB md ops n true f t listed = true → wpJ P ops oF rF Q t a w → ∀ j ∈ t.heads, j ∈ Region.ready md ops listed → 0 < f ∧ j < n ∧ canOpJ P ops oF rF j (wpAnyJ P md ops oF rF n (fun listed' a' w' => Region.seqB md ops (ops.size - n) n listed' = true ∧ Q a' w') (f - 1) (listed.setIfInBounds j true)) a w)
  | .done, f, listed, a, w, _ => ⟨fun hB h => by
      simp only [treeB, Bool.and_eq_true, decide_eq_true_eq] at hB
      obtain ⟨⟨_, rfl⟩, hB⟩ := hB
      exact ⟨hB, h⟩, fun hB => by simp [treeB] at hB⟩
  | .flt i t, f, listed, a, w, inv => ⟨fun hB h => by
      simp only [treeB, Bool.and_eq_true, decide_eq_true_eq] at hB
      obtain ⟨⟨⟨⟨⟨_, hf⟩, hin⟩, hr⟩, hfr⟩, hB'⟩ := hB
      obtain ⟨g, rfl⟩ : ∃ g, f = g + 1 := ⟨f - 1, by omega⟩
      have hr' : i ∈ Region.ready md ops listed := by simpa using hr
      unfold wpJ at h
      cases ho : ops[i]? with
      | none => simp only [ho] at h
      | some o =>
        simp only [ho] at h
        obtain ⟨v, hy, hK⟩ : ∃ v, YieldsJ P ops oF rF o v a ∧ wpJ P ops oF rF Q t (a.put o.dst v) w := by
          by_cases hw : Region.wanted o (yielded ops a.tmps) = true
          · rw [if_pos hw] at h
            obtain ⟨v, h1, h2⟩ := h
            exact ⟨v, .inl ⟨hw, h1⟩, h2⟩
          · rw [if_neg hw] at h
            exact ⟨undef, .inr ⟨by simpa using hw, rfl⟩, h⟩
        exact wpAnyJ_first (fun _ _ _ _ hw hq => ⟨hq.1, hQ _ _ _ hw hq.2⟩) ho (Region.noSelect_spec hsel) (hnt i hin) (fun _ _ _ hL => seqB_ready hL.1) hin g listed a w inv (Region.free_spec ho hfr) hr' hy
          ((wpAnyJ_tree hQ hsel hnt t g _ _ _ (inv.set hr' hin)).1 (by simpa using hB') hK), fun hB => by simp [treeB] at hB⟩
  | .gr i t e, f, listed, a, w, inv => by
      have alt : ∀ alt, treeB md ops n alt f (.gr i t e) listed = true → wpJ P ops oF rF Q (.gr i t e) a w → ∀ j ∈ (Pl.gr i t e).heads, j ∈ Region.ready md ops listed → 0 < f ∧ j < n ∧ canOpJ P ops oF rF j (wpAnyJ P md ops oF rF n (fun listed' a' w' => Region.seqB md ops (ops.size - n) n listed' = true ∧ Q a' w') (f - 1) (listed.setIfInBounds j true)) a w := by
        intro alt hB h j hj hjr
        simp only [treeB, Bool.and_eq_true, decide_eq_true_eq] at hB
        obtain ⟨⟨⟨⟨_, hf⟩, hin⟩, hB1⟩, hB2⟩ := hB
        unfold wpJ at h
        obtain ⟨h1, h2⟩ := h
        simp only [Pl.heads, List.mem_cons] at hj
        by_cases hji : j = i
        · subst hji
          refine ⟨hf, hin, fun w' hw' h0 => ?_⟩
          cases ho : ops[j]? with
          | none => simp only [ho] at h1
          | some o =>
            simp only [ho] at h1
            unfold wpOp
            simp only [ho]
            by_cases hw : Region.wanted o (yielded ops a.tmps) = true
            · rw [if_pos hw] at h1 ⊢
              exact .inl (Oper.wp_mono (fun a' w2 hk => ⟨hk.1, (wpAnyJ_tree hQ hsel hnt t _ _ _ _ (inv.set hjr hin)).1 hB1 hk.2⟩) (h1 w' hw'))
            · rw [if_neg hw] at h1 ⊢
              exact ⟨h0, wpAnyJ_later (fun _ _ _ _ hw hq => ⟨hq.1, hQ _ _ _ hw hq.2⟩) _ _ _ _ _ hw' ((wpAnyJ_tree hQ hsel hnt t _ _ _ _ (inv.set hjr hin)).1 hB1 h1)⟩
        · have hj' : j ∈ e.heads := by rcases hj with h | h; exact absurd h hji; exact h
          exact (wpAnyJ_tree hQ hsel hnt e f listed a w inv).2 hB2 h2 j hj' hjr
      refine ⟨fun hB h => ?_, alt true⟩
      have hB0 := hB
      simp only [treeB, Bool.and_eq_true, decide_eq_true_eq, Bool.false_or] at hB
      obtain ⟨⟨⟨⟨⟨hall, hne⟩, hf⟩, _⟩, _⟩, _⟩ := hB
      obtain ⟨g, rfl⟩ : ∃ g, f = g + 1 := ⟨f - 1, by omega⟩
      refine ⟨fun h0 => by rw [h0] at hne; simp at hne, fun j hj => ?_⟩
      have hjh : j ∈ (Pl.gr i t e).heads := by simpa using List.all_eq_true.1 hall j hj
      exact (alt false hB0 h j hjh hj).2
  | .nil, f, listed, a, w, _ => ⟨fun hB => by simp [treeB] at hB, fun _ _ j hj => by simp [Pl.heads] at hj⟩
theorem wp_region_inv {id : Nat} {Q : Exit → Act → World → Prop} {a : Act} {w : World} {l : List Oper} (n : Nat) (t : Pl) (hm : P.follows .mixedOrders = true)
    (hB : (Region.noSelect l.toArray && (decide (n = l.toArray.size) || (decide (n < l.toArray.size) && Region.sinkB .any l.toArray n && Region.chainB .any l.toArray n)) && treeB .any l.toArray n false n t (Array.replicate l.toArray.size false)) = true)
    (hw : Mem w oF rF) (h : wpJ P l.toArray oF rF (fun a' w' => ∀ w'', Later w' w'' → wpList P l.toArray Q (l.drop n) a' w'') t a w) : (Code.region id l.toArray true).wp P Q a w := by
  simp only [Bool.and_eq_true] at hB
  obtain ⟨⟨hsel, hn⟩, hpl⟩ := hB
  have hnle : n ≤ l.toArray.size := by
    rcases Bool.or_eq_true _ _ ▸ hn with hn | hn
    · simp only [decide_eq_true_eq] at hn; omega
    · simp only [Bool.and_eq_true, decide_eq_true_eq] at hn; omega
  have hnt : ∀ i, i < n → ∀ listed, HeadInv .any l.toArray n listed → listed.getD i true = false → ∀ j ∈ Region.ready .any l.toArray listed, j < n := by
    intro i hin listed inv hun j hj
    rcases Bool.or_eq_true _ _ ▸ hn with hn | hn
    · simp only [decide_eq_true_eq] at hn
      have := ready_lt j hj
      omega
    · simp only [Bool.and_eq_true, decide_eq_true_eq] at hn
      obtain ⟨⟨hn, hs⟩, hc⟩ := hn
      rcases Nat.lt_or_ge j n with h | h
      · exact h
      · exact absurd hj (tail_waits hs hc hn inv _ i rfl hin hun j h)
  have inv0 : HeadInv .any l.toArray n (Array.replicate l.toArray.size false) :=
    ⟨by simp, fun j oj _ hl => (by rw [getD_replicate_false] at hl; cases hl), fun t _ ht => getD_in (by simpa using ht) (getD_replicate_false _ _)⟩
  have H := (wpAnyJ_tree (P := P) (md := .any) (oF := oF) (rF := rF) (Q := fun a' w' => ∀ w'', Later w' w'' → wpList P l.toArray Q (l.drop n) a' w'') (fun a w w' hw hq w'' hw'' => hq w'' (hw.trans hw'')) hsel hnt t n _ a w inv0).1 hpl h
  refine wp_region_any hm ?_
  have hdl : (l.drop n).length = l.toArray.size - n := by simp
  have := wpAny_of_canJ (Q' := Q) (g := l.toArray.size - n) (oF := oF) (rF := rF) (fun listed a' w' _ hL => by
    have := wpAny_of_seq (md := .any) (Q' := Q) (l.drop n) n listed a' w' (fun j => by simp [List.getElem?_drop]) (by rw [hdl]; exact hL.1) (hL.2 w' (Later.refl _))
    rwa [hdl] at this) _ _ _ _ (hw.later (Later.drew w)) (wpAnyJ_later (fun _ _ _ _ hw hq => ⟨hq.1, fun w2 h2 => hq.2 w2 (hw.trans h2)⟩) _ _ _ _ _ (Later.drew w) H)
  rw [show n + (l.toArray.size - n) = l.toArray.size by omega] at this
  exact this
end
section
variable {P : Program} {n : Nat} {l : List (Nat × Value)} {own oF : List (Nat × Obj)} {ro : List Snap} {lops : List Oper} {Q : Exit → Act → World → Prop} {K : Act → World → Prop} {i d : Nat} {t e : Pl} {op : Op} {ty : TypeId} {pos : String} {af : Array Edge}
theorem rg_inv {id : Nat} {Q : Exit → Act → World → Prop} (oF : List (Nat × Obj)) (m : Nat) (t : Pl) (hsub : oF.Sublist own) (hm : P.follows .mixedOrders = true)
    (hB : (Region.noSelect lops.toArray && (decide (m = lops.toArray.size) || (decide (m < lops.toArray.size) && Region.sinkB .any lops.toArray m && Region.chainB .any lops.toArray m)) && treeB .any lops.toArray m false m t (Array.replicate lops.toArray.size false)) = true)
    (h : S (wpJ P lops.toArray oF ro (fun a' w' => ∀ w'', Later w' w'' → wpList P lops.toArray Q (lops.drop m) a' w'') t) n l own ro) : W P (.region id lops.toArray true) Q n l own ro :=
  fun a w ha hw => wp_region_inv m t hm hB (hw.less hsub (fun _ h => h)) (h a w ha hw)
theorem j_run {o : Oper} (ho : lops[i]? = some o) (hgo : Go_ lops n l o) (hd0 : o.dst = some d) (hd : decide (d < n) = true) {v : Value} (hv : OpV P n l oF ro o.op o.type v)
    (h : S (wpJ P lops.toArray oF ro K t) n ((d, v) :: l) own ro) : S (wpJ P lops.toArray oF ro K (.flt i t)) n l own ro := fun a w ha hw => by
  have hd' : d < n := of_decide_eq_true hd
  unfold wpJ
  simp only [List.getElem?_toArray, ho]
  rw [if_pos (hgo a ha)]
  refine ⟨v, fun w' hw' => ?_, by rw [hd0]; exact h _ w (ha.put v hd') hw⟩
  unfold fltAt
  rw [hv a w' _ ha hw' rfl rfl]
  exact ⟨rfl, rfl⟩
theorem j_val (ho : lops[i]? = some ⟨some d, op, ty, pos, af, none⟩) (hd : decide (d < n) = true) {v : Value} (hv : OpV P n l oF ro op ty v)
    (h : S (wpJ P lops.toArray oF ro K t) n ((d, v) :: l) own ro) : S (wpJ P lops.toArray oF ro K (.flt i t)) n l own ro := j_run ho (go_none rfl) rfl hd hv h
theorem j_gr (h : WX P lops.toArray (fun _ _ _ => False) (fun a w => Mem w oF ro ∧ wpJ P lops.toArray oF ro K t a w) [(none, i)] n l own ro) (he : S (wpJ P lops.toArray oF ro K e) n l own ro) : S (wpJ P lops.toArray oF ro K (.gr i t e)) n l own ro := fun a w ha hw => by
  have h := h a w ha hw
  unfold wpJ
  refine ⟨?_, he a w ha hw⟩
  simp only [wpX] at h
  split <;> rename_i ho <;> simp only [ho] at h
  split <;> rename_i hw'
  · intro w2 h2
    have h := h w2 h2
    rw [if_pos hw'] at h
    exact Oper.wp_mono (fun a' w' hk => hk w' (Later.refl _)) h
  · have h := h w (Later.refl _)
    rw [if_neg hw'] at h
    exact (h w (Later.refl _)).2
theorem j_end (hsub : oF.Sublist own) (h : S (wpJ P lops.toArray oF ro K t) n l own ro) : S (fun a w => Mem w oF ro ∧ wpJ P lops.toArray oF ro K t a w) n l own ro := fun a w ha hw => ⟨hw.less hsub (fun _ h => h), h a w ha hw⟩
theorem j_nil : S (wpJ P lops.toArray oF ro K .nil) n l own ro := fun _ _ _ _ => trivial
theorem j_done {m : Nat} (h : WX P lops.toArray Q (fun a w => Q .normal a w) (tailFrom m lops.length) n l own ro) :
    S (wpJ P lops.toArray oF ro (fun a' w' => ∀ w'', Later w' w'' → wpList P lops.toArray Q (lops.drop m) a' w'') .done) n l own ro :=
  fun a w ha hw w2 h2 => wpList_of_X _ m a w2 rfl (wpX_later h2 (h a w ha hw))
end
end Go.PK

namespace Go.PK
open Go Go.RowKit
def serC (p : Pat) (r1 r2 R : RowS) (n : Nat) : List Value := [.int .i64 p.first, .int .i64 p.days, rowV r1 p.lv.length, rowV r2 p.st.length, rowV R n]
structure SerOK (p : Pat) (es : List Ent) (r1 r2 R : RowS) : Prop where
  fst : in64 p.first
  dys : in64 p.days
  lvs : rowOK 1 r1 p.lv.length (p.lv.map (Value.int .i64))
  lin : ∀ d ∈ p.lv, in64 d
  sts : rowOK 1 r2 p.st.length (p.st.map (Value.int .i64))
  sin : ∀ d ∈ p.st, in64 d
  ent : rowOK 4 R es.length (entsC es)
  ein : ∀ x ∈ es, entIn x
theorem SerOK.with {p : Pat} {es es' : List Ent} {r1 r2 R R' : RowS} (h : SerOK p es r1 r2 R) (h1 : rowOK 4 R' es'.length (entsC es')) (h2 : ∀ x ∈ es', entIn x) : SerOK p es' r1 r2 R' := ⟨h.fst, h.dys, h.lvs, h.lin, h.sts, h.sin, h1, h2⟩
end Go.PK

namespace Go.PK
open Go Go.RowKit
def entOK (x : Ent) : Prop := 0 ≤ x.fr ∧ x.fr ≤ x.to ∧ x.to < 100000 ∧ x.to - x.fr < 100 ∧ okDay x.day
def heldJ (p : Pat) (x : Ent) (j : Nat) : List Iss := (List.range j).map fun i => ⟨numsP p (x.fr + (i : Nat)), x.day⟩
def heldE (p : Pat) (x : Ent) : List Iss := if x.sk then [] else heldJ p x (x.to - x.fr + 1).toNat
def heldP (p : Pat) (es : List Ent) : List Iss := es.flatMap (heldE p)
theorem heldJ_succ (p : Pat) (x : Ent) (j : Nat) : heldJ p x (j + 1) = heldJ p x j ++ [⟨numsP p (x.fr + (j : Nat)), x.day⟩] := by unfold heldJ; rw [List.range_succ, List.map_append]; rfl
theorem heldJ_len (p : Pat) (x : Ent) (j : Nat) : (heldJ p x j).length = j := by simp [heldJ]
theorem heldP_snoc {p : Pat} {es : List Ent} {k : Nat} (h : k < es.length) : heldP p (es.take (k + 1)) = heldP p (es.take k) ++ heldE p es[k] := by
  unfold heldP; rw [List.take_succ_eq_append_getElem h, List.flatMap_append, List.flatMap_singleton]
theorem heldE_len {p : Pat} {x : Ent} (h : entOK x) : (heldE p x).length ≤ 100 := by
  obtain ⟨h1, h2, h3, h4, _⟩ := h
  unfold heldE
  split
  · exact Nat.zero_le _
  · rw [heldJ_len]; omega
theorem heldP_len {p : Pat} {es : List Ent} (h : ∀ x ∈ es, entOK x) : ∀ k, (heldP p (es.take k)).length ≤ 100 * k
  | 0 => by simp [heldP]
  | k + 1 => by
    have ih := heldP_len (p := p) h k
    by_cases hk : k < es.length
    · rw [heldP_snoc hk, List.length_append]
      have := heldE_len (p := p) (h _ (List.getElem_mem hk))
      omega
    · rw [List.take_of_length_le (by omega)]
      rw [List.take_of_length_le (by omega)] at ih
      omega
theorem entOK.in {x : Ent} (h : entOK x) : entIn x := by
  obtain ⟨h1, h2, h3, h4, h5⟩ := h
  unfold okDay at h5
  exact ⟨by unfold in64; omega, by unfold in64; omega, by unfold in64; omega⟩
structure SerRd (w : World) (b : Nat) (p : Pat) (es : List Ent) (v1 v2 v3 : Value) : Prop where
  cells : ∀ j (hj : j < [Value.int .i64 p.first, Value.int .i64 p.days, v1, v2, v3].length), w.cell? ⟨b, j, none⟩ = some [Value.int .i64 p.first, Value.int .i64 p.days, v1, v2, v3][j]
  lvs : sliceRd tyI (fun _ => True) w v1 p.lv
  sts : sliceRd tyI (fun _ => True) w v2 p.st
  fst : in64 p.first
  dys : in64 p.days
  ent : sliceRd tyEnt (fun _ => True) w v3 es
theorem SerOK.rd {p : Pat} {es : List Ent} {r1 r2 R : RowS} (h : SerOK p es r1 r2 R) {w : World} {own : List (Nat × Obj)} {ro : List Snap} {b : Nat} {e e1 e2 : TypeId} (hm : Mem w own ro) (hb : (b, Obj.cells (serC p r1 r2 R es.length).toArray e (0, 0)) ∈ own)
    (h1 : ∀ q ∈ rowO e1 r1, q ∈ own) (h2 : ∀ q ∈ rowO e1 r2, q ∈ own) (h3 : ∀ q ∈ rowO e2 R, q ∈ own) : SerRd w b p es (rowV r1 p.lv.length) (rowV r2 p.st.length) (rowV R es.length) where
  cells := fun j hj => by
    have := hm.cell_own hb j
    rw [this, List.getElem?_toArray]
    exact List.getElem?_eq_getElem (l := serC p r1 r2 R es.length) hj
  lvs := rowI_rd (e := e1) h.lvs rfl h.lin hm h1 (fun _ _ => trivial)
  sts := rowI_rd (e := e1) h.sts rfl h.sin hm h2 (fun _ _ => trivial)
  fst := h.fst
  dys := h.dys
  ent := ents_rd (e := e2) h.ent rfl h.ein hm h3 (fun _ _ => trivial)
theorem SerRd.keep {w w' : World} {b : Nat} {p : Pat} {es : List Ent} {v1 v2 v3 : Value} (h : SerRd w b p es v1 v2 v3) (hl : Later w w') : SerRd w' b p es v1 v2 v3 :=
  ⟨fun j hj => (hl.cell (p := ⟨b, j, none⟩) (cell_lt (h.cells j hj))).trans (h.cells j hj), h.lvs.keep (Kept.later hl), h.sts.keep (Kept.later hl), h.fst, h.dys, h.ent.keep (Kept.later hl)⟩
end Go.PK

namespace Go.PK
open Go Go.RowKit
theorem sliceRd.drop1 {α : Type} {T : Ty α} {D : Nat → Prop} {w : World} {A : Option Addr} {l c : Nat} {x : α} {xs : List α} (h : sliceRd T D w (.slice A l c) (x :: xs)) :
    sliceRd T D w (.slice (if c = 1 then A else A.map (fun a => a.add (1 * T.size))) (l - 1) (c - 1)) xs := by
  obtain ⟨A', c', e, h1, h2, h3⟩ := h
  injection e with e1 e2 e3
  subst e1 e2 e3
  rw [List.length_cons] at h1 h2 ⊢
  refine ⟨_, _, by rw [Nat.add_sub_cancel], by omega, by omega, fun h0 => ?_⟩
  rw [if_neg (by omega)]
  obtain ⟨b, off, rfl, hD, hb, hc⟩ := h3 (by simp)
  refine ⟨b, off + 1 * T.size, by rw [Option.map_some, mk_add], hD, hb, fun j hj => ?_⟩
  obtain ⟨cs, hcs, hr⟩ := hc (j + 1) (by simpa using hj)
  refine ⟨cs, fun i hi => ?_, by simpa using hr⟩
  have := hcs i hi
  rw [show off + (j + 1) * T.size + i = off + 1 * T.size + j * T.size + i by rw [Nat.add_mul]; omega] at this
  exact this
def missF (p : Pat) (d last day : Int) : Nat → Int → List Ent → Nat → List Iss
  | 0, _, _, _ => []
  | f + 1, k, l, n => if k < 100000 ∧ n < 1000 then
      (match l with
       | [] => if p.first + k * p.days + (if k > last then d else 0) > day then [] else ⟨numsP p k, p.first + k * p.days + (if k > last then d else 0)⟩ :: missF p d last day f (k + 1) [] (n + 1)
       | e :: r => if k ≥ e.fr then missF p d last day f (e.to + 1) r n else
          if p.first + k * p.days + (if k > last then d else 0) > day then [] else ⟨numsP p k, p.first + k * p.days + (if k > last then d else 0)⟩ :: missF p d last day f (k + 1) (e :: r) (n + 1))
    else []
def missMu (k : Int) (l : List Ent) : Nat := (100000 - k).toNat + l.length * 200000 + 1
end Go.PK

namespace Go.PK
open Go Go.RowKit
section
variable {P : Program} {n : Nat} {l : List (Nat × Value)} {own : List (Nat × Obj)} {ro : List Snap} {ty t t' : TypeId} {x y : Operand}
theorem v_ieq {td : TypeDesc} {v : Value} {b : Bool} (ht : P.underlying t = some td) (hi : (match td with | .interface _ => true | _ => false) = true) (hx : ev l x = some v) (hv : isIface v b) : OpV P n l own ro (.binOp .eql t x (.const .nilIface) t') ty (.bool (!b)) := by
  intro A w o ha _ ho _
  have e : A.eval (.const .nilIface) = .nilIface := rfl
  cases td <;> simp at hi
  rcases hv with ⟨rfl, rfl⟩ | ⟨⟨d, u, rfl⟩, rfl⟩
  · have h : ∀ d : Nat, (Op.equalIn (d + 1) t .nilIface .nilIface).run P w = .ok true w := fun d => by simp [Op.equalIn, run_underlying ht]
    have h2 : (Op.equal t .nilIface .nilIface).run P w = .ok true w := h 9999
    simp [execOp, ho, ha.eval hx, e, eqGuard, binOp, h2]
  · have h : ∀ q : Nat, (Op.equalIn (q + 1) t (.iface d u) .nilIface).run P w = .ok false w := fun q => by simp [Op.equalIn, run_underlying ht]
    have h2 : (Op.equal t (.iface d u) .nilIface).run P w = .ok false w := h 9999
    simp [execOp, ho, ha.eval hx, e, eqGuard, binOp, h2]
end
def sEvery : ByteArray := ⟨#[101, 118, 101, 114, 121, 32]⟩
def sFrom : ByteArray := ⟨#[32, 102, 114, 111, 109, 32]⟩
def sColon : ByteArray := ⟨#[58, 32]⟩
def sComma : ByteArray := ⟨#[44, 32]⟩
noncomputable def wrTo (p : Pat) : Nat → ByteArray
  | 0 => sEvery ++ itoaS p.days ++ sFrom ++ textR p.first ++ sColon ++ itoaS (p.st.getD 0 0)
  | k + 1 => wrTo p k ++ (sComma ++ itoaS (p.st.getD (k + 1) 0) ++ slash ++ itoaS (p.lv.getD (k + 1) 0))
noncomputable def writeQ (p : Pat) : ByteArray := if rightQ p then wrTo p (p.lv.length - 1) else ⟨#[]⟩
theorem textR_sz (n : Int) : (textR n).size ≤ 10 := by
  unfold textR
  split
  · simp only [ByteArray.size_append, lowD_size]; decide
  · decide
theorem wrTo_sz (p : Pat) (hs : ∀ d ∈ p.st, in64 d) (hl : ∀ d ∈ p.lv, in64 d) (hd : in64 p.days) (he : p.st.length = p.lv.length) (h1 : 1 ≤ p.lv.length) : ∀ k, k < p.lv.length → (wrTo p k).size ≤ 100 + 100 * k
  | 0, _ => by
    have a := itoaS_size hd
    have b := itoaS_size (hs _ (by rw [getD_lt (show 0 < p.st.length by omega)]; exact List.getElem_mem _) : in64 (p.st.getD 0 0))
    have c := textR_sz p.first
    have d1 : sEvery.size = 6 := rfl
    have d2 : sFrom.size = 6 := rfl
    have d3 : sColon.size = 2 := rfl
    unfold wrTo
    simp only [ByteArray.size_append]
    omega
  | k + 1, hk => by
    have ih := wrTo_sz p hs hl hd he h1 k (by omega)
    have a := itoaS_size (hs _ (by rw [getD_lt (show k + 1 < p.st.length by omega)]; exact List.getElem_mem _) : in64 (p.st.getD (k + 1) 0))
    have b := itoaS_size (hl _ (by rw [getD_lt (show k + 1 < p.lv.length by omega)]; exact List.getElem_mem _) : in64 (p.lv.getD (k + 1) 0))
    have d1 : sComma.size = 2 := rfl
    have d2 : slash.size = 1 := rfl
    unfold wrTo
    simp only [ByteArray.size_append]
    omega
def pcS (i : Nat) (x : ByteArray) : ByteArray := if 0 < i then (cutG x slash).1 else x
def pcL (i : Nat) (x : ByteArray) : ByteArray := if 0 < i then (cutG x slash).2.1 else ⟨#[48]⟩
def atoiB (x : ByteArray) : Bool := match Lib.atoiAll (bl x) with | .ok _ => true | _ => false
theorem atoiB_case {x : ByteArray} {n : Int} {b : Bool} (h1 : b = false → Lib.atoiAll (bl x) = .ok n) (h2 : b = true → ∀ v, Lib.atoiAll (bl x) ≠ .ok v) : atoiB x = !b ∧ (b = false → n = atoiV x) := by
  unfold atoiB atoiV
  cases b with
  | true =>
    refine ⟨?_, fun h => by cases h⟩
    cases hq : Lib.atoiAll (bl x) with
    | ok v => exact absurd hq (h2 rfl v)
    | _ => rfl
  | false => rw [h1 rfl]; exact ⟨rfl, fun _ => rfl⟩
def rdC1 (s : ByteArray) := cutG s sEvery
def rdC2 (s : ByteArray) := cutG (rdC1 s).2.1 sFrom
def rdC3 (s : ByteArray) := cutG (rdC2 s).2.1 sColon
def rdPs (s : ByteArray) : List ByteArray := splitG (rdC3 s).2.1 sComma
def rdF (s : ByteArray) : Nat → Bool
  | 0 => (rdC1 s).2.2 && (rdC2 s).2.2 && atoiB (rdC2 s).1 && (rdC3 s).2.2
  | k + 1 => rdF s k && atoiB (pcS k ((rdPs s).getD k ⟨#[]⟩)) && atoiB (pcL k ((rdPs s).getD k ⟨#[]⟩))
def rdS (s : ByteArray) (k : Nat) : List Int := (List.range k).map fun i => atoiV (pcS i ((rdPs s).getD i ⟨#[]⟩))
def rdL (s : ByteArray) (k : Nat) : List Int := (List.range k).map fun i => atoiV (pcL i ((rdPs s).getD i ⟨#[]⟩))
theorem rdS_succ (s : ByteArray) (k : Nat) : rdS s (k + 1) = rdS s k ++ [atoiV (pcS k ((rdPs s).getD k ⟨#[]⟩))] := by unfold rdS; rw [List.range_succ, List.map_append]; rfl
theorem rdL_succ (s : ByteArray) (k : Nat) : rdL s (k + 1) = rdL s k ++ [atoiV (pcL k ((rdPs s).getD k ⟨#[]⟩))] := by unfold rdL; rw [List.range_succ, List.map_append]; rfl
def zeroPat : Pat := ⟨0, 0, [], []⟩
end Go.PK

namespace Go.PK
open Go Go.RowKit
def exP : Pat := ⟨19723, 30, [0, 12], [12, 11]⟩
def exT : ByteArray := ⟨#[101, 118, 101, 114, 121, 32, 51, 48, 32, 102, 114, 111, 109, 32, 50, 48, 50, 52, 45, 48, 49, 45, 48, 49, 58, 32, 49, 50, 44, 32, 49, 49, 47, 49, 50]⟩
def exE1 : List Ent := [⟨1, 2, false, 19790⟩]
def exE2 : List Ent := [⟨0, 0, true, 19800⟩, ⟨1, 2, false, 19790⟩]
theorem ex_right : rightQ exP := by decide +kernel
theorem ex_num : numP exP [13, 2] = some 3 := by decide +kernel
theorem ex_t1 : takeQ exP [] ⟨#[49, 50, 47, 49, 50, 45, 49, 51, 47, 49]⟩ 19790 = (exE1, 0) := by decide +kernel
theorem ex_t2 : takeQ exP exE1 ⟨#[120, 49, 50, 47, 49, 49]⟩ 19800 = (exE2, 0) := by decide +kernel
theorem ex_t3 : takeQ exP exE2 ⟨#[49, 51, 47, 49]⟩ 19800 = (exE2, 22) := by decide +kernel
theorem ex_t4 : takeQ exP exE2 ⟨#[49, 50, 47, 49, 51]⟩ 19800 = (exE2, 32) := by decide +kernel
theorem ex_t5 : takeQ exP exE2 ⟨#[49, 50, 47, 48, 49, 49]⟩ 19800 = (exE2, 11) := by decide +kernel
theorem ex_held : heldP exP exE2 = [⟨[12, 12], 19790⟩, ⟨[13, 1], 19790⟩] := by decide +kernel
theorem ex_dly : missF exP 37 2 19850 (missMu 0 exE1) 0 exE1 0 = [⟨[12, 11], 19723⟩, ⟨[13, 2], 19850⟩] := by decide +kernel
theorem ex_pred : predP exP 4 = [⟨[12, 11], 19723⟩, ⟨[12, 12], 19753⟩, ⟨[13, 1], 19783⟩, ⟨[13, 2], 19813⟩] := by decide +kernel
theorem ex_f : rdF exT (rdPs exT).length = true := by decide +kernel
theorem ex_c3 : (rdC3 exT).1 = ⟨#[50, 48, 50, 52, 45, 48, 49, 45, 48, 49]⟩ := by decide +kernel
theorem ex_l : rdL exT (rdPs exT).length = [0, 12] ∧ rdS exT (rdPs exT).length = [12, 11] ∧ atoiV (rdC2 exT).1 = 30 := by decide +kernel
end Go.PK

namespace Go.PK
open Go Go.RowKit
section
variable {P : Program} {n : Nat} {l : List (Nat × Value)} {own : List (Nat × Obj)} {ro : List Snap} {lops : List Oper} {Q : Exit → Act → World → Prop} {K : Act → World → Prop}
  {rest : List (Option Bool × Nat)} {k : Option Bool} {i d j dj : Nat} {want : Bool} {op : Op} {ty : TypeId} {pos : String} {af : Array Edge}
theorem x_valg (ho : lops[i]? = some ⟨some d, op, ty, pos, af, some (j, want)⟩) (hj : (lops[j]?).bind (·.dst) = some dj) (hb : l.lookup dj = some (.bool want)) (hk : k.getD true = true) (hd : decide (d < n) = true) {v : Value} (hv : OpV P n l own ro op ty v)
    (h : WX P lops.toArray Q K rest n ((d, v) :: l) own ro) : WX P lops.toArray Q K ((k, i) :: rest) n l own ro := x_run ho (go_some rfl hj hb) rfl hk hd hv h
theorem x_boolg (ho : lops[i]? = some ⟨some d, op, ty, pos, af, some (j, want)⟩) (hj : (lops[j]?).bind (·.dst) = some dj) (hb : l.lookup dj = some (.bool want)) (hk : k.getD true = true) (hd : decide (d < n) = true) {b : Bool} (hv : OpV P n l own ro op ty (.bool b))
    (h : ∀ c, c = b → WX P lops.toArray Q K rest n ((d, .bool c) :: l) own ro) : WX P lops.toArray Q K ((k, i) :: rest) n l own ro := x_run ho (go_some rfl hj hb) rfl hk hd hv (h b rfl)
theorem x_callvg {f : FuncId} {fn : Func} {xs : Array Operand} {tys : Array TypeId} {vs : List Value} (ho : lops[i]? = some ⟨some d, .call ⟨.value (.func f), xs, tys⟩, ty, pos, af, some (j, want)⟩) (hj : (lops[j]?).bind (·.dst) = some dj) (hb : l.lookup dj = some (.bool want)) (hk : k.getD true = true) (hd : decide (d < n) = true)
    (hf : P.funcs[f]? = some fn) (hbody : (!(fn.name == "runtime.NumGoroutine") && fn.body.isSome) = true) (hx : evs l xs.toList = some vs) {v : Value}
    (hc : ∀ w, Mem w own ro → Calls P f vs.toArray w fun e w' => e = .returned v ∧ Later w w')
    (h : WX P lops.toArray Q K rest n ((d, v) :: l) own ro) : WX P lops.toArray Q K ((k, i) :: rest) n l own ro :=
  x_callv_core (fst := #[]) (cap := #[]) ho (go_some rfl hj hb) rfl rfl hk hd rfl hf hbody hx (by simpa using hc) h
theorem x_callbg {f : FuncId} {fn : Func} {xs : Array Operand} {tys : Array TypeId} {vs : List Value} (ho : lops[i]? = some ⟨some d, .call ⟨.value (.func f), xs, tys⟩, ty, pos, af, some (j, want)⟩) (hj : (lops[j]?).bind (·.dst) = some dj) (hb : l.lookup dj = some (.bool want)) (hk : k.getD true = true) (hd : decide (d < n) = true)
    (hf : P.funcs[f]? = some fn) (hbody : (!(fn.name == "runtime.NumGoroutine") && fn.body.isSome) = true) (hx : evs l xs.toList = some vs) {b : Bool}
    (hc : ∀ w, Mem w own ro → Calls P f vs.toArray w fun e w' => e = .returned (.bool b) ∧ Later w w')
    (h : ∀ c, c = b → WX P lops.toArray Q K rest n ((d, .bool c) :: l) own ro) : WX P lops.toArray Q K ((k, i) :: rest) n l own ro := x_callvg ho hj hb hk hd hf hbody hx hc (h b rfl)
theorem x_turng {τ : Type} {f : FuncId} {fn : Func} {xs : Array Operand} {tys : Array TypeId} {vs : List Value} {v : Value} (R : τ → Prop) (O : τ → List (Nat × Obj)) (ho : lops[i]? = some ⟨some d, .call ⟨.value (.func f), xs, tys⟩, ty, pos, af, some (j, want)⟩) (hj : (lops[j]?).bind (·.dst) = some dj) (hb : l.lookup dj = some (.bool want)) (hd : decide (d < n) = true)
    (hf : P.funcs[f]? = some fn) (hbody : (!(fn.name == "runtime.NumGoroutine") && fn.body.isSome) = true) (hx : evs l xs.toList = some vs)
    (hc : ∀ w, Mem w own ro → Calls P f vs.toArray w fun e w' => e = .returned v ∧ ∃ x, R x ∧ Mem w' (O x) ro)
    (h : ∀ x, R x → WX P lops.toArray Q K rest n ((d, v) :: l) (O x) ro) : WX P lops.toArray Q K ((none, i) :: rest) n l own ro := by
  intro a w ha hw
  have hd' : d < n := of_decide_eq_true hd
  have hw1 := go_some (lops := lops) (n := n) (l := l) (o := ⟨some d, .call ⟨.value (.func f), xs, tys⟩, ty, pos, af, some (j, want)⟩) rfl hj hb a ha
  simp only [wpX, List.getElem?_toArray, ho]
  intro w' hl
  rw [if_pos hw1]
  unfold Oper.wp
  have hc' : ∀ w, Mem w own ro → Calls P f ((#[] : Array Value) ++ vs.toArray ++ #[]) w fun e w' => e = .returned v ∧ ∃ x, R x ∧ Mem w' (O x) ro := by simpa using hc
  rw [run_callv (fst := #[]) (cap := #[]) rfl ha rfl hf hbody hx]
  refine Calls.mono (hc' w' (hw.later hl)) fun e w2 he => ?_
  obtain ⟨rfl, x, hr, hm⟩ := he
  exact h x hr _ w2 (ha.put v hd') hm
end
end Go.PK

namespace Go.PK
open Go Go.RowKit
end Go.PK

namespace Go.PK
open Go Go.RowKit
section
variable {P : Program} {n : Nat} {l : List (Nat × Value)} {own : List (Nat × Obj)} {ro : List Snap} {Q : Exit → Act → World → Prop} {K : Act → World → Prop} {R : Ending → World → Prop} {fn : Func}
theorem retct {t u : Tmp} {ty : TypeId} {td : TypeDesc} {b : Nat} {cs : Array Value} {e : TypeId} {fz : Nat × Nat} {v : Value} (hr : fn.results = #[.cell t ty, .tmp u]) (hv : l.lookup t = some (.pointer (some ⟨b, 0, none⟩))) (hu : l.lookup u = some v) (hb : (b, Obj.cells cs e fz) ∈ own)
    (ht : P.underlying ty = some td) (hd : aggT td = true) (hs : (P.info? ty).map (·.size) = some cs.size) (h : ∀ w', Mem w' own ro → R (.returned (.tuple #[.agg cs, v])) w') : S (bodyPost P fn R .ret) n l own ro := by
  intro a w ha hw
  refine ⟨ha.df, _, ?_, h w hw⟩
  have h1 := ha.at_ t _ hv
  have h2 := ha.at_ u _ hu
  rw [results_cell_tmp hr, show a.tmps.getD t undef = .pointer (some ⟨b, 0, none⟩) by simp [Array.getD_eq_getD_getElem?, h1], show a.tmps.getD u undef = v by simp [Array.getD_eq_getD_getElem?, h2]]
  simp [asAddr, run_loadVar_row w b e ty cs fz td (hw.own_at _ hb) ht (by cases td <;> simp_all [aggT]) hs]
end
end Go.PK

namespace Go.PK
open Go Go.RowKit
theorem RowT.any {α : Type} {T : Ty α} {D' : Nat → Prop} {w wx : World} {own : List (Nat × Obj)} {ro : List Snap} {e : TypeId} {r : RowS} {xs : List α} {v : Nat} (h : RowT T (fun _ => False) wx r xs) (hm : Mem w own ro) (hin : ∀ p ∈ rowO e r, p ∈ own) (hD : ∀ p ∈ rowO e r, D' p.1) (hv : v = xs.length) : sliceRd T D' w (rowV r v) xs :=
  RowT.rd (D := fun _ => False) (w := w) (h.keep (fun k hk _ => hk.elim)) hm hin (fun _ hx => hx.elim) hD hv
end Go.PK

namespace Go.PK
open Go Go.RowKit
end Go.PK

namespace Go.PK
open Go Go.RowKit
end Go.PK

namespace Go.PK
open Go Go.RowKit
section
variable {P : Program} {n : Nat} {l : List (Nat × Value)} {own : List (Nat × Obj)} {ro : List Snap} {lops : List Oper} {Q : Exit → Act → World → Prop} {K : Act → World → Prop}
  {rest : List (Option Bool × Nat)} {k : Option Bool} {i d : Nat} {op : Op} {ty : TypeId} {pos : String} {af : Array Edge} {x y z' : Operand} {t : TypeId}
end
end Go.PK

namespace Go.PK
open Go Go.RowKit
end Go.PK

namespace Go.PK
open Go Go.RowKit
theorem Mem.join2 {w1 w2 : World} {own1 own2 : List (Nat × Obj)} {ro : List Snap} (h1 : Mem w1 own1 ro) (h2 : Mem w2 own2 [(w1, fun _ => True)]) : Mem w2 (own2 ++ own1) ro where
  own_at := fun p hp => by
    rcases List.mem_append.1 hp with hp | hp
    · exact h2.own_at p hp
    · exact (h2.ro_at _ (.head _) p.1 trivial (h1.lt hp)).trans (h1.own_at p hp)
  own_nd := by
    rw [List.map_append, List.nodup_append]
    refine ⟨h2.own_nd, h1.own_nd, fun a ha b hb e => ?_⟩
    obtain ⟨p, hp, rfl⟩ := List.mem_map.1 ha
    obtain ⟨q, hq, rfl⟩ := List.mem_map.1 hb
    have a1 := h2.apart p hp _ (.head _) trivial
    have a2 := h1.lt hq
    simp only at a1; omega
  ro_st := (h1.join h2).ro_st
  ro_at := (h1.join h2).ro_at
  apart := fun p hp s hs hd => by
    rcases List.mem_append.1 hp with hp | hp
    · exact (h1.join h2).apart p hp s hs hd
    · exact h1.apart p hp s hs hd
end Go.PK

namespace Go.PK
open Go Go.RowKit
def isC (L : List (Nat × List Int × Int)) : List Value := (L.map fun x => [Value.slice (some ⟨x.1, 0, none⟩) x.2.1.length x.2.1.length, Value.int .i64 x.2.2]).flatten
theorem iss_row {w : World} {own : List (Nat × Obj)} {ro : List Snap} (hm : Mem w own ro) {b : Nat} {e e' : TypeId} (L : List (Nat × List Int × Int)) (hb : (b, Obj.cells (isC L).toArray e (0, 0)) ∈ own)
    (hr : ∀ x ∈ L, (x.1, Obj.cells (x.2.1.map (Value.int .i64)).toArray e' (0, 0)) ∈ own) (hin : ∀ x ∈ L, (∀ d ∈ x.2.1, in64 d) ∧ in64 x.2.2 ∧ x.2.1.length ≤ maxLen) (hl : L.length ≤ 1000) :
    sliceRd tyIss (fun _ => True) w (.slice (some ⟨b, 0, none⟩) L.length L.length) (L.map fun x => (⟨x.2.1, x.2.2⟩ : Iss)) := by
  have hlt := hm.lt hb
  refine ⟨_, L.length, by rw [List.length_map], by rw [List.length_map]; exact Nat.le_refl _, by rw [List.length_map]; omega, fun _ => ⟨b, 0, rfl, trivial, hlt, fun j hj => ?_⟩⟩
  have hj' : j < L.length := by simpa using hj
  obtain ⟨i1, i2, i3⟩ := hin _ (List.getElem_mem hj')
  refine ⟨[Value.slice (some ⟨L[j].1, 0, none⟩) L[j].2.1.length L[j].2.1.length, Value.int .i64 L[j].2.2], fun i hi => ?_, Value.slice (some ⟨L[j].1, 0, none⟩) L[j].2.1.length L[j].2.1.length, by simp, ?_, by simpa using i2⟩
  · have hc := hm.cell_own hb (0 + j * 2 + i)
    show w.cell? ⟨b, 0 + j * 2 + i, none⟩ = _
    rw [hc, List.getElem?_toArray, Nat.zero_add]
    unfold isC
    rw [flatten_get (m := 2) _ (fun k hk => by rw [List.getElem_map]; rfl) j (by simpa using hj') i hi, List.getElem_map]
    exact List.getElem?_eq_getElem hi
  · have h := hr _ (List.getElem_mem hj')
    have hrow : rowOK 1 (some (L[j].1, L[j].2.1.map (Value.int .i64), L[j].2.1.length)) L[j].2.1.length (L[j].2.1.map (Value.int .i64)) := rowOK_lit (by simp) i3
    have := rowI_rd (D := fun _ => True) (e := e') hrow rfl i1 hm (fun p hp => by rw [show p = _ from List.mem_singleton.1 hp]; exact h) (fun _ _ => trivial)
    simp only [List.getElem_map]
    exact this
theorem num_row {w : World} {own : List (Nat × Obj)} {ro : List Snap} (hm : Mem w own ro) {b : Nat} {e : TypeId} (ns : List Int) (hb : (b, Obj.cells (ns.map (Value.int .i64)).toArray e (0, 0)) ∈ own) (hin : ∀ d ∈ ns, in64 d) (hl : ns.length ≤ maxLen) :
    sliceRd tyI (fun _ => True) w (.slice (some ⟨b, 0, none⟩) ns.length ns.length) ns :=
  rowI_rd (D := fun _ => True) (e := e) (r := some (b, ns.map (Value.int .i64), ns.length)) (rowOK_lit (by simp) hl) rfl hin hm (fun p hp => by rw [show p = _ from List.mem_singleton.1 hp]; exact hb) (fun _ _ => trivial)
end Go.PK

namespace Go.PK
open Go Go.RowKit
theorem sliceRd.dropN {α : Type} {T : Ty α} {D : Nat → Prop} {w : World} {A : Option Addr} {l c : Nat} {xs : List α} (i : Nat) (hi : i ≤ l) (h : sliceRd T D w (.slice A l c) xs) :
    sliceRd T D w (.slice (if c = i then A else A.map (fun a => a.add (i * T.size))) (l - i) (c - i)) (xs.drop i) := by
  obtain ⟨A', c', e, h1, h2, h3⟩ := h
  injection e with e1 e2 e3
  subst e1 e2 e3
  refine ⟨_, _, by rw [List.length_drop], by rw [List.length_drop]; omega, by rw [List.length_drop]; omega, fun h0 => ?_⟩
  rw [List.length_drop] at h0
  rw [if_neg (by omega)]
  obtain ⟨b, off, rfl, hD, hb, hc⟩ := h3 (by omega)
  refine ⟨b, off + i * T.size, by rw [Option.map_some, mk_add], hD, hb, fun j hj => ?_⟩
  rw [List.length_drop] at hj
  obtain ⟨cs, hcs, hr⟩ := hc (i + j) (by omega)
  refine ⟨cs, fun k hk => ?_, by rw [List.getElem_drop]; exact hr⟩
  have := hcs k hk
  rw [show off + (i + j) * T.size + k = off + i * T.size + j * T.size + k by rw [Nat.add_mul]; omega] at this
  exact this
end Go.PK

namespace Go.PK
open Go Go.RowKit
theorem lexC_step {xs ys : List Int} {k : Nat} (h1 : k < xs.length) (h2 : k < ys.length) : lexC (xs.drop k) (ys.drop k) = if xs[k] < ys[k] then -1 else if xs[k] > ys[k] then 1 else lexC (xs.drop (k + 1)) (ys.drop (k + 1)) := by
  rw [List.drop_eq_getElem_cons h1, List.drop_eq_getElem_cons h2, lexC_cons]
theorem lexC_nil (ys : List Int) : lexC [] ys = 0 := by cases ys <;> rfl
theorem srch_cmp {p : Pat} (h : rightQ p) {ns : List Int} {k : Int} (hk : numP p ns = some k) (m : Int) : lexC (numsP p m) ns = cmpI m k := by
  obtain ⟨_, h2⟩ := (numP_iff h ns k).1 hk
  rw [h2, lex_nums h]
theorem srch_lo {p : Pat} (h : rightQ p) {ns : List Int} {k : Int} (hk : numP p ns = some k) {m : Int} (hlt : lexC (numsP p m) ns < 0) : m < k := by
  rw [srch_cmp h hk] at hlt
  unfold cmpI at hlt
  split at hlt
  · assumption
  · split at hlt <;> omega
theorem srch_hi {p : Pat} (h : rightQ p) {ns : List Int} {k : Int} (hk : numP p ns = some k) {m : Int} (hlt : ¬lexC (numsP p m) ns < 0) : k ≤ m := by
  rw [srch_cmp h hk] at hlt
  unfold cmpI at hlt
  split at hlt
  · omega
  · omega
theorem srch_rng {p : Pat} (h : rightQ p) {ns : List Int} {k : Int} (hk : numP p ns = some k) : 0 ≤ k ∧ k < 100000 := ((numP_iff h ns k).1 hk).1
theorem srch_far {p : Pat} (h : rightQ p) {ns : List Int} (hI : ∀ k, numP p ns = some k → (100000 : Int) ≤ k) : numP p ns = none := by
  cases hq : numP p ns with
  | none => rfl
  | some k => have := srch_rng h hq; have := hI k hq; omega
theorem srch_no {p : Pat} (h : rightQ p) {ns : List Int} {m : Int} (hI : ∀ k, numP p ns = some k → m ≤ k ∧ k ≤ m) (hne : lexC (numsP p m) ns ≠ 0) : numP p ns = none := by
  cases hq : numP p ns with
  | none => rfl
  | some k =>
    have h1 := hI k hq
    obtain rfl : k = m := by omega
    rw [srch_cmp h hq] at hne
    exact absurd (by unfold cmpI; rw [if_neg (by omega), if_neg (by omega)]) hne
theorem srch_yes {p : Pat} (h : rightQ p) {ns : List Int} {m : Int} (hl : (numsP p m).length = ns.length) (h0 : 0 ≤ m ∧ m < 100000) (he : lexC (numsP p m) ns = 0) : numP p ns = some m :=
  (numP_iff h ns m).2 ⟨h0, ((lexC_eq _ _ hl).1 he).symm⟩
end Go.PK

namespace Go.PK
open Go Go.RowKit
theorem pre_no {A B tl : List UInt8} {c : UInt8} (h : ∀ x ∈ A, x ≠ c) {j : Nat} (hj : j < A.length) : Lib.occAt (A ++ B) (c :: tl) j = false := by
  unfold Lib.occAt
  rw [List.drop_append_of_le_length (by omega), List.drop_eq_getElem_cons hj, List.cons_append, List.isPrefixOf_cons_cons]
  have := h _ (List.getElem_mem hj)
  simp [Ne.symm this]
theorem idx_hit {A B tl : List UInt8} {c : UInt8} (h : ∀ x ∈ A, x ≠ c) : Lib.index (A ++ ((c :: tl) ++ B)) (c :: tl) = (A.length : Nat) := by
  refine Lib.index_first (by simp) ?_ (fun j hj => pre_no h hj)
  unfold Lib.occAt
  rw [List.drop_left]
  exact List.isPrefixOf_iff_prefix.2 (List.prefix_append _ _)
theorem idx_miss {A tl : List UInt8} {c : UInt8} (h : ∀ x ∈ A, x ≠ c) : Lib.index A (c :: tl) = -1 := by
  refine Lib.index_none (fun j hj => ?_)
  by_cases h1 : j < A.length
  · have := pre_no (B := []) (tl := tl) h h1
    rwa [List.append_nil] at this
  · unfold Lib.occAt
    rw [List.drop_eq_nil_of_le (by omega)]; rfl
theorem cutG_hit {s sep : ByteArray} {A B tl : List UInt8} {c : UInt8} (hs : bl s = A ++ (bl sep ++ B)) (hsep : bl sep = c :: tl) (hA : ∀ x ∈ A, x ≠ c) : cutG s sep = (⟨A.toArray⟩, ⟨B.toArray⟩, true) := by
  unfold cutG Lib.cut
  rw [hs, hsep, idx_hit hA, if_pos (by omega), Int.toNat_natCast, List.take_left, List.drop_append, List.drop_eq_nil_of_le (by omega), Nat.add_sub_cancel_left, List.nil_append, List.drop_left]
theorem cutG_miss {s sep : ByteArray} {tl : List UInt8} {c : UInt8} (hsep : bl sep = c :: tl) (hA : ∀ x ∈ bl s, x ≠ c) : cutG s sep = (s, ⟨#[]⟩, false) := by
  unfold cutG Lib.cut
  rw [hsep, idx_miss hA, if_neg (by omega)]
  dsimp only
  rw [bl_str]
theorem splitK_join (c : UInt8) (tl : List UInt8) : ∀ (xs : List (List UInt8)) (A : List UInt8), (∀ x ∈ A, x ≠ c) → (∀ y ∈ xs, ∀ x ∈ y, x ≠ c) →
    Lib.splitK (c :: tl) 0 (Lib.count (A ++ (xs.map ((c :: tl) ++ ·)).flatten) (c :: tl)) (A ++ (xs.map ((c :: tl) ++ ·)).flatten) = A :: xs
  | [], A, hA, _ => by
    rw [List.map_nil, List.flatten_nil, List.append_nil, Lib.count_miss (idx_miss hA)]; rfl
  | x :: xs, A, hA, hx => by
    have ih := splitK_join c tl xs x (fun y hy => hx x (List.mem_cons_self ..) y hy) (fun y hy => hx y (List.mem_cons_of_mem _ hy))
    rw [List.map_cons, List.flatten_cons, List.append_assoc]
    have hi := idx_hit (B := x ++ (xs.map ((c :: tl) ++ ·)).flatten) (tl := tl) hA
    have hd : (A ++ ((c :: tl) ++ (x ++ (xs.map ((c :: tl) ++ ·)).flatten))).drop (A.length + (c :: tl).length) = x ++ (xs.map ((c :: tl) ++ ·)).flatten := by
      rw [List.drop_append, List.drop_eq_nil_of_le (by omega), Nat.add_sub_cancel_left, List.nil_append, List.drop_left]
    rw [Lib.count_hit (by simp) hi, hd, Nat.add_comm 1]
    rw [Lib.splitK, hi, if_neg (by simp), Int.toNat_natCast, hd, ih, Nat.add_zero, List.take_left]
theorem splitG_join {s sep : ByteArray} {c : UInt8} {tl A : List UInt8} {xs : List (List UInt8)} (hsep : bl sep = c :: tl) (hs : bl s = A ++ (xs.map (bl sep ++ ·)).flatten) (hA : ∀ x ∈ A, x ≠ c) (hx : ∀ y ∈ xs, ∀ x ∈ y, x ≠ c) :
    splitG s sep = (A :: xs).map fun x => ⟨x.toArray⟩ := by
  have h1 : (splitG s sep).map bl = A :: xs := by
    have h := Lib.splitB_data sep 0 (Lib.countB s sep) s
    show (Lib.splitB sep 0 (Lib.countB s sep) s).map (·.data.toList) = _
    rw [h]
    show Lib.splitK (bl sep) 0 (Lib.count (bl s) (bl sep)) (bl s) = _
    rw [hs, hsep]
    exact splitK_join c tl xs A hA hx
  rw [← h1, List.map_map]
  rw [show ((fun x : List UInt8 => (⟨x.toArray⟩ : ByteArray)) ∘ bl) = id from funext bl_str, List.map_id]
theorem bl_inj {a b : ByteArray} (h : bl a = bl b) : a = b := by rw [← bl_str a, h, bl_str]
def digP (l : List UInt8) : List UInt8 := (l.takeWhile digB8).take 8
def valR (s : ByteArray) (i : Nat) : Int × Nat × Bool :=
  if canonL (digP ((bl s).drop i)) ∧ (digP ((bl s).drop i)).length ≤ 7 then (((numF (digP ((bl s).drop i)) 0 : Nat) : Int), i + (digP ((bl s).drop i)).length, true) else (0, i + (digP ((bl s).drop i)).length, false)
theorem tw_pre : ∀ (l : List UInt8), l.takeWhile digB8 <+: l
  | [] => List.nil_prefix
  | a :: l => by
    rw [List.takeWhile_cons]
    split
    · exact List.cons_prefix_cons.2 ⟨rfl, tw_pre l⟩
    · exact List.nil_prefix
theorem digP_pre (l : List UInt8) : digP l ++ l.drop (digP l).length = l := by
  obtain ⟨t, ht⟩ : digP l <+: l := (List.take_prefix _ _).trans (tw_pre l)
  have : l.drop (digP l).length = t := by
    generalize digP l = d at ht ⊢
    rw [← ht, List.drop_left]
  rw [this, ht]
theorem tw_dig : ∀ (d r : List UInt8), (∀ c ∈ d, digB8 c = true) → (∀ c, r.head? = some c → digB8 c = false) → (d ++ r).takeWhile digB8 = d
  | [], r, _, hr => by
    cases r with
    | nil => rfl
    | cons c r => rw [List.nil_append, List.takeWhile_cons, hr c rfl]; rfl
  | c :: d, r, hd, hr => by
    rw [List.cons_append, List.takeWhile_cons, hd c (List.mem_cons_self ..), if_pos rfl, tw_dig d r (fun x hx => hd x (List.mem_cons_of_mem _ hx)) hr]
theorem val_hit {s : ByteArray} {i : Nat} {n : Int} {r : List UInt8} (hs : (bl s).drop i = bl (itoaS n) ++ r) (h0 : 0 ≤ n) (h7 : n < 10000000) (hr : ∀ c, r.head? = some c → digB8 c = false) : valR s i = (n, i + (itoaS n).size, true) := by
  have hc := itoa_canon h0
  have e10 : (10 : Int) ^ (6 + 1) = 10000000 := by decide
  have hsz : (bl (itoaS n)).length ≤ 7 := by rw [bl_len]; exact (itoa_sz h0 6).2 (by rw [e10]; exact h7)
  have hd : digP ((bl s).drop i) = bl (itoaS n) := by
    unfold digP; rw [hs, tw_dig _ _ hc.2.1 hr, List.take_of_length_le (by omega)]
  unfold valR
  rw [hd, if_pos ⟨hc, hsz⟩, itoa_num h0, bl_len]
theorem val_ok {s : ByteArray} {i : Nat} (h : (valR s i).2.2 = true) : (bl s).drop i = bl (itoaS (valR s i).1) ++ (bl s).drop (valR s i).2.1 ∧ 0 ≤ (valR s i).1 ∧ i < (valR s i).2.1 ∧ (valR s i).2.1 ≤ s.size ∧ (valR s i).1 < 10000000 := by
  unfold valR at h ⊢
  split
  · rename_i hc
    have hi := canon_itoa (s := ⟨(digP ((bl s).drop i)).toArray⟩) (by rw [bl_mk]; exact hc.1)
    rw [bl_mk] at hi
    have hp := digP_pre ((bl s).drop i)
    have hne : 0 < (digP ((bl s).drop i)).length := List.length_pos_iff.2 hc.1.1
    have hle : (digP ((bl s).drop i)).length ≤ ((bl s).drop i).length := by
      have := congrArg List.length hp
      rw [List.length_append] at this; omega
    rw [List.length_drop, bl_len] at hle
    refine ⟨?_, Int.natCast_nonneg _, by dsimp only; omega, by dsimp only; omega, ?_⟩
    · dsimp only
      rw [hi, bl_mk, ← List.drop_drop]
      exact hp.symm
    · have h2 := (itoa_sz (n := ((numF (digP ((bl s).drop i)) 0 : Nat) : Int)) (Int.natCast_nonneg _) 6).1 (by rw [hi, ← bl_len, bl_mk]; exact hc.2)
      have : (10 : Int) ^ (6 + 1) = 10000000 := by decide
      dsimp only; omega
  · rename_i hc; rw [if_neg hc] at h; cases h
theorem val_at (s : ByteArray) (i : Nat) : i ≤ (valR s i).2.1 ∧ (valR s i).2.1 ≤ i + 8 := by
  have : (digP ((bl s).drop i)).length ≤ 8 := by unfold digP; rw [List.length_take]; omega
  unfold valR; split <;> (dsimp only; omega)
theorem val_rng (s : ByteArray) (i : Nat) : 0 ≤ (valR s i).1 ∧ (valR s i).1 < 10000000 := by
  cases h : (valR s i).2.2 with
  | true => obtain ⟨_, h1, _, _, h2⟩ := val_ok h; exact ⟨h1, h2⟩
  | false =>
    unfold valR at h ⊢
    split
    · rename_i hc; rw [if_pos hc] at h; cases h
    · dsimp only; omega
def hasR (s : ByteArray) (i : Nat) (t : ByteArray) : Bool := decide (i + t.size ≤ s.size) && decide (s.extract i (i + t.size) = t)
theorem bl_ext (s : ByteArray) (i j : Nat) : bl (s.extract i j) = ((bl s).drop i).take (j - i) := by
  show (s.extract i j).data.toList = _
  rw [ByteArray.data_extract, Array.toList_extract, List.extract_eq_take_drop]; rfl
theorem has_ok {s t : ByteArray} {i : Nat} (h : hasR s i t = true) : (bl s).drop i = bl t ++ (bl s).drop (i + t.size) := by
  unfold hasR at h
  rw [Bool.and_eq_true, decide_eq_true_eq, decide_eq_true_eq] at h
  have h2 := congrArg bl h.2
  rw [bl_ext, Nat.add_sub_cancel_left] at h2
  rw [← List.drop_drop, ← h2, List.take_append_drop]
theorem has_hit {s t : ByteArray} {i : Nat} {r : List UInt8} (ht : 1 ≤ t.size) (h : (bl s).drop i = bl t ++ r) : hasR s i t = true := by
  have hl := congrArg List.length h
  rw [List.length_drop, List.length_append, bl_len, bl_len] at hl
  unfold hasR
  rw [Bool.and_eq_true, decide_eq_true_eq, decide_eq_true_eq]
  refine ⟨by omega, bl_inj ?_⟩
  rw [bl_ext, Nat.add_sub_cancel_left, h, ← bl_len t, List.take_left]
theorem drop_more {s : ByteArray} {i k : Nat} {a r : List UInt8} (h : (bl s).drop i = a ++ r) (hk : a.length = k) : (bl s).drop (i + k) = r := by
  rw [← List.drop_drop, h, ← hk, List.drop_left]
def pcT (x : Int × Int) : List UInt8 := bl sComma ++ (bl (itoaS x.1) ++ (bl slash ++ bl (itoaS x.2)))
def tailT (l : List (Int × Int)) : List UInt8 := (l.map pcT).flatten
def patO (days first start : Int) (l : List (Int × Int)) : Pat := ⟨first, days, 0 :: l.map (·.2), start :: l.map (·.1)⟩
theorem tailT_snoc {l : List (Int × Int)} {k : Nat} (h : k < l.length) : tailT (l.take (k + 1)) = tailT (l.take k) ++ pcT l[k] := by
  unfold tailT
  rw [← List.take_append_getElem h, List.map_append, List.flatten_append]
  simp
theorem getD_map {l : List (Int × Int)} {k : Nat} (f : Int × Int → Int) (h : k < l.length) (a : Int) : (a :: l.map f).getD (k + 1) 0 = f l[k] := by
  rw [List.getD_eq_getElem?_getD, List.getElem?_cons_succ, List.getElem?_map, List.getElem?_eq_getElem h]; rfl
noncomputable def headT (days first start : Int) : List UInt8 := bl sEvery ++ (bl (itoaS days) ++ (bl sFrom ++ (bl (textR first) ++ (bl sColon ++ bl (itoaS start)))))
theorem wr_bl (days first start : Int) (l : List (Int × Int)) : ∀ k, k ≤ l.length → bl (wrTo (patO days first start l) k) = headT days first start ++ tailT (l.take k)
  | 0, _ => by
    rw [List.take_zero]
    unfold wrTo headT
    simp only [bl_app, List.append_assoc]
    rw [show tailT [] = [] from rfl, List.append_nil]
    rfl
  | k + 1, h => by
    rw [tailT_snoc (show k < l.length by omega), ← List.append_assoc, ← wr_bl days first start l k (by omega)]
    rw [wrTo]
    simp only [bl_app, List.append_assoc]
    unfold pcT
    rw [show (patO days first start l).st.getD (k + 1) 0 = l[k].1 from getD_map (·.1) (by omega) _, show (patO days first start l).lv.getD (k + 1) 0 = l[k].2 from getD_map (·.2) (by omega) _]
theorem write_bl {days first start : Int} {l : List (Int × Int)} (h : rightQ (patO days first start l)) : bl (writeQ (patO days first start l)) = headT days first start ++ tailT l := by
  unfold writeQ
  rw [if_pos h]
  have : (patO days first start l).lv.length - 1 = l.length := by show (0 :: l.map (·.2)).length - 1 = _; simp
  rw [this, wr_bl days first start l l.length (Nat.le_refl _), List.take_length]
theorem lvOK_zip : ∀ (ss ls : List Int), lvOK ss ls → (ss.zip ls).map (·.1) = ss ∧ (ss.zip ls).map (·.2) = ls ∧ ∀ x ∈ ss.zip ls, (0 ≤ x.1 ∧ x.1 < 10000000) ∧ 0 ≤ x.2 ∧ x.2 < 10000000
  | [], [], _ => ⟨rfl, rfl, fun x hx => by cases hx⟩
  | s :: ss, l :: ls, h => by
    obtain ⟨h1, h2, h3, h4⟩ := h.hd
    obtain ⟨e1, e2, e3⟩ := lvOK_zip ss ls h.tl
    refine ⟨by rw [List.zip_cons_cons, List.map_cons, e1], by rw [List.zip_cons_cons, List.map_cons, e2], fun x hx => ?_⟩
    rw [List.zip_cons_cons] at hx
    rcases List.mem_cons.1 hx with rfl | hx
    · dsimp only; omega
    · exact e3 x hx
  | [], _ :: _, h => by have := h.1; simp at this
  | _ :: _, [], h => by have := h.1; simp at this
theorem right_pat {p : Pat} (h : rightQ p) : ∃ s0 l, p = patO p.days p.first s0 l ∧ (0 ≤ s0 ∧ s0 < 10000000) ∧ (0 ≤ p.days ∧ p.days < 10000000) ∧ okDay p.first ∧ (∀ x ∈ l, (0 ≤ x.1 ∧ x.1 < 10000000) ∧ 0 ≤ x.2 ∧ x.2 < 10000000) ∧ l.length ≤ 3 := by
  obtain ⟨s0, ls, ss, h1, h2, h3, h4, h5, h6⟩ := h.split
  obtain ⟨e1, e2, e3⟩ := lvOK_zip ss ls h5
  have h7 := h.2.2.1
  refine ⟨s0, ss.zip ls, ?_, ⟨h3, by omega⟩, by omega, h.2.2.2, e3, by rw [List.length_zip]; omega⟩
  unfold patO
  rw [e1, e2, ← h1, ← h2]
end Go.PK

namespace Go.PK
open Go Go.RowKit
def tailR (s : ByteArray) : Nat → Nat → Option (List (Int × Int))
  | 0, _ => none
  | f + 1, nx => if nx < s.size then
      if (hasR s nx sComma && (valR s (nx + 2)).2.2 && hasR s (valR s (nx + 2)).2.1 slash && (valR s ((valR s (nx + 2)).2.1 + 1)).2.2) = true then (tailR s f (valR s ((valR s (nx + 2)).2.1 + 1)).2.1).map (((valR s (nx + 2)).1, (valR s ((valR s (nx + 2)).2.1 + 1)).1) :: ·) else none
    else some []
theorem tail_ok (s : ByteArray) : ∀ (f nx : Nat) (l : List (Int × Int)), tailR s f nx = some l → (bl s).drop nx = tailT l
  | 0, _, _, h => by cases h
  | f + 1, nx, l, h => by
    unfold tailR at h
    split at h
    · split at h
      · rename_i hc
        simp only [Bool.and_eq_true] at hc
        obtain ⟨⟨⟨h1, h2⟩, h3⟩, h4⟩ := hc
        cases hq : tailR s f (valR s ((valR s (nx + 2)).2.1 + 1)).2.1 with
        | none => rw [hq] at h; cases h
        | some m =>
          rw [hq] at h
          injection h with h
          have ih := tail_ok s f _ m hq
          rw [← h]
          have e1 := has_ok h1
          have e2 := (val_ok h2).1
          have e3 := has_ok h3
          have e4 := (val_ok h4).1
          rw [show sComma.size = 2 from rfl] at e1
          rw [show slash.size = 1 from rfl] at e3
          rw [e1, e2, e3, e4, ih]
          unfold tailT
          rw [List.map_cons, List.flatten_cons]
          unfold pcT
          simp only [List.append_assoc]
      · cases h
    · injection h with h
      rw [← h, List.drop_eq_nil_of_le (by rw [bl_len]; omega)]; rfl
theorem tail_hd (l : List (Int × Int)) : ∀ c, (tailT l).head? = some c → digB8 c = false := fun c hc => by
  cases l with
  | nil => cases hc
  | cons x l => injection hc with hc; rw [← hc]; rfl
theorem tail_hit (s : ByteArray) : ∀ (f nx : Nat) (l : List (Int × Int)), (bl s).drop nx = tailT l → (∀ x ∈ l, (0 ≤ x.1 ∧ x.1 < 10000000) ∧ 0 ≤ x.2 ∧ x.2 < 10000000) → l.length < f → tailR s f nx = some l
  | 0, _, _, _, _, h => by omega
  | f + 1, nx, [], h, _, _ => by
    unfold tailR
    have := congrArg List.length h
    rw [List.length_drop, bl_len] at this
    have h0 : (tailT []).length = 0 := rfl
    rw [if_neg (by omega)]
  | f + 1, nx, x :: l, h, hx, hf => by
    obtain ⟨⟨a1, a2⟩, a3, a4⟩ := hx x (List.mem_cons_self ..)
    have e0 : tailT (x :: l) = bl sComma ++ (bl (itoaS x.1) ++ (bl slash ++ (bl (itoaS x.2) ++ tailT l))) := by
      unfold tailT; rw [List.map_cons, List.flatten_cons]; unfold pcT; simp only [List.append_assoc]
    rw [e0] at h
    have hlt : nx < s.size := by
      have := congrArg List.length h
      rw [List.length_drop, bl_len, List.length_append, bl_len, show sComma.size = 2 from rfl] at this
      omega
    have g1 := drop_more (k := 2) h (bl_len _)
    have v1 := val_hit g1 a1 a2 (fun c hc => by injection hc with hc; rw [← hc]; rfl)
    have g2 := drop_more (k := (itoaS x.1).size) g1 (bl_len _)
    have g3 := drop_more (k := 1) g2 (bl_len _)
    have v2 := val_hit g3 a3 a4 (tail_hd l)
    have g4 := drop_more (k := (itoaS x.2).size) g3 (bl_len _)
    have ih := tail_hit s f _ l g4 (fun y hy => hx y (List.mem_cons_of_mem _ hy)) (by rw [List.length_cons] at hf; omega)
    unfold tailR
    rw [if_pos hlt, v1]
    dsimp only
    rw [v2]
    dsimp only
    rw [has_hit (by decide) h, has_hit (by decide) g2, ih]
    rfl
section
variable (rd : ByteArray → Int × Int)
def hdR (s : ByteArray) : Bool := hasR s 0 sEvery && (valR s 6).2.2 && hasR s (valR s 6).2.1 sFrom && decide ((valR s 6).2.1 + 16 ≤ s.size)
def dyR (s : ByteArray) : ByteArray := s.extract ((valR s 6).2.1 + 6) ((valR s 6).2.1 + 16)
def stR (s : ByteArray) : Int × Nat × Bool := valR s ((valR s 6).2.1 + 18)
def okR25 (s : ByteArray) : Bool := hdR s && decide ((rd (dyR s)).2 = 0) && hasR s ((valR s 6).2.1 + 16) sColon && (stR s).2.2
def readPR (s : ByteArray) : Pat × Int :=
  if okR25 rd s = true then
    match tailR s (s.size + 1) (stR s).2.1 with
    | some l => if rightQ (patO (valR s 6).1 (rd (dyR s)).1 (stR s).1 l) then (patO (valR s 6).1 (rd (dyR s)).1 (stR s).1 l, 0) else (zeroPat, 11)
    | none => (zeroPat, 11)
  else (zeroPat, 11)
theorem readPR_case (h1 : ∀ t, (rd t).2 = 0 → textR (rd t).1 = t) (s : ByteArray) : readPR rd s = (zeroPat, 11) ∨ ∃ q, readPR rd s = (q, 0) ∧ rightQ q ∧ writeQ q = s := by
  unfold readPR
  split
  · rename_i hc
    split
    · rename_i l hl
      split
      · rename_i hq
        refine .inr ⟨_, rfl, hq, bl_inj ?_⟩
        unfold okR25 hdR at hc
        simp only [Bool.and_eq_true, decide_eq_true_eq] at hc
        obtain ⟨⟨⟨⟨⟨⟨c1, c2⟩, c3⟩, c4⟩, c5⟩, c6⟩, c7⟩ := hc
        have e1 := has_ok c1
        have e2 := (val_ok c2).1
        have e3 := has_ok c3
        have e6 := has_ok c6
        have e7 := (val_ok c7).1
        have e8 := tail_ok s _ _ l hl
        have e5 := congrArg bl (h1 _ c5)
        unfold dyR at e5
        rw [bl_ext, show (valR s 6).2.1 + 16 - ((valR s 6).2.1 + 6) = 10 by omega] at e5
        have e4 : (bl s).drop ((valR s 6).2.1 + 6) = bl (textR (rd (dyR s)).1) ++ (bl s).drop ((valR s 6).2.1 + 16) := by
          unfold dyR
          have e9 := (List.take_append_drop 10 ((bl s).drop ((valR s 6).2.1 + 6))).symm
          rw [List.drop_drop, show (valR s 6).2.1 + 6 + 10 = (valR s 6).2.1 + 16 by omega] at e9
          rw [e5]; exact e9
        rw [show sEvery.size = 6 from rfl, List.drop_zero, Nat.zero_add] at e1
        rw [show sFrom.size = 6 from rfl] at e3
        rw [show sColon.size = 2 from rfl, show (valR s 6).2.1 + 16 + 2 = (valR s 6).2.1 + 18 by omega] at e6
        rw [write_bl hq, e1, e2, e3, e4, e6]
        unfold stR at e8 ⊢
        rw [e7, e8]
        unfold headT
        simp only [List.append_assoc]
      · exact .inl rfl
    · exact .inl rfl
  · exact .inl rfl
theorem lowD_dig (n : Int) : ∀ i, ∀ c ∈ bl (lowD n i), digB8 c = true
  | 0, c, h => by cases h
  | i + 1, c, h => by
    rw [lowD, bl_app] at h
    rcases List.mem_append.1 h with h | h
    · rw [show c = _ from List.mem_singleton.1 h]
      have h1 := Int.emod_nonneg (n / 10 ^ i) (show (10 : Int) ≠ 0 by decide)
      have h2 := Int.emod_lt_of_pos (n / 10 ^ i) (show (0 : Int) < 10 by decide)
      exact digB8_of (by omega)
    · exact lowD_dig n i c h
theorem text_ne {n : Int} {x : UInt8} (hx : 57 < x.toNat) : ∀ c ∈ bl (textR n), c ≠ x := fun c hc => by
  unfold textR at hc
  split at hc
  · simp only [bl_app, List.append_assoc, List.mem_append] at hc
    have h45 : ∀ c ∈ bl (⟨#[45]⟩ : ByteArray), c ≠ x := fun c hc => by
      rw [show c = 45 from List.mem_singleton.1 hc]; intro e; rw [← e] at hx; revert hx; decide
    rcases hc with hc | hc | hc | hc | hc
    · exact dig_ne (lowD_dig _ _ c hc) (.inr hx)
    · exact h45 c hc
    · exact dig_ne (lowD_dig _ _ c hc) (.inr hx)
    · exact h45 c hc
    · exact dig_ne (lowD_dig _ _ c hc) (.inr hx)
  · cases hc
theorem text_ten {n : Int} (h : okDay n) : (textR n).size = 10 := by
  unfold textR; rw [if_pos h]; simp only [ByteArray.size_append, lowD_size]; rfl
theorem readPR_hit (h2 : ∀ n, okDay n → rd (textR n) = (n, 0)) {p : Pat} (h : rightQ p) : readPR rd (writeQ p) = (p, 0) := by
  obtain ⟨s0, l, hp, ⟨a1, a2⟩, ⟨a3, a4⟩, a5, a6, a7⟩ := right_pat h
  have hw := write_bl (hp ▸ h)
  rw [← hp] at hw
  generalize writeQ p = s at hw ⊢
  unfold headT at hw
  simp only [List.append_assoc] at hw
  have g0 : (bl s).drop 0 = _ := hw
  have g1 := drop_more (k := 6) g0 (bl_len _)
  rw [Nat.zero_add] at g1
  have v1 := val_hit g1 a3 a4 (fun c hc => by injection hc with hc; rw [← hc]; rfl)
  have g2 := drop_more (k := (itoaS p.days).size) g1 (bl_len _)
  have g3 := drop_more (k := 6) g2 (bl_len _)
  have g4 := drop_more (k := 10) g3 ((bl_len _).trans (text_ten a5))
  have g5 := drop_more (k := 2) g4 (bl_len _)
  have v2 := val_hit g5 a1 a2 (tail_hd l)
  have g6 := drop_more (k := (itoaS s0).size) g5 (bl_len _)
  have hd : s.extract (6 + (itoaS p.days).size + 6) (6 + (itoaS p.days).size + 16) = textR p.first := by
    apply bl_inj
    rw [bl_ext, g3, show 6 + (itoaS p.days).size + 16 - (6 + (itoaS p.days).size + 6) = 10 by omega, ← text_ten a5, ← bl_len, List.take_left]
  have hsz : 6 + (itoaS p.days).size + 16 ≤ s.size := by
    have := congrArg List.length g4
    rw [List.length_drop, bl_len, List.length_append, bl_len, show sColon.size = 2 from rfl] at this
    omega
  have hl : l.length < s.size + 1 := by omega
  have ht := tail_hit s (s.size + 1) _ l g6 a6 hl
  have hok : okR25 rd s = true := by
    unfold okR25 hdR dyR stR
    rw [v1]
    dsimp only
    rw [hd, h2 _ a5, has_hit (by decide) g0, has_hit (by decide) g2, decide_eq_true hsz, show 6 + (itoaS p.days).size + 16 = 6 + (itoaS p.days).size + 6 + 10 by omega, has_hit (by decide) g4, show 6 + (itoaS p.days).size + 18 = 6 + (itoaS p.days).size + 6 + 10 + 2 by omega, v2]
    rfl
  unfold readPR
  rw [if_pos hok]
  unfold stR dyR
  rw [v1]
  dsimp only
  rw [show 6 + (itoaS p.days).size + 18 = 6 + (itoaS p.days).size + 6 + 10 + 2 by omega, v2]
  dsimp only
  rw [ht, hd, h2 _ a5]
  dsimp only
  rw [← hp, if_pos h]
end
theorem atoi_itoa {n : Int} (h : 0 ≤ n) (h7 : n < 10000000) : atoiV (itoaS n) = n ∧ atoiB (itoaS n) = true := by
  have e10 : (10 : Int) ^ (6 + 1) = 10000000 := by decide
  have h1 := atoi_digits (itoa_canon h) (by rw [bl_len]; have := (itoa_sz h 6).2 (by rw [e10]; exact h7); omega)
  rw [itoa_num h] at h1
  unfold atoiV atoiB
  rw [h1]
  exact ⟨rfl, rfl⟩
theorem prog_parts {p : Pat} (h : rightQ p) : ∃ s0 l, p = patO p.days p.first s0 l ∧ (rdC1 (writeQ p)).2.2 = true ∧ (rdC2 (writeQ p)).2.2 = true ∧ (rdC2 (writeQ p)).1 = itoaS p.days ∧ (rdC3 (writeQ p)).2.2 = true ∧ (rdC3 (writeQ p)).1 = textR p.first ∧
    rdPs (writeQ p) = itoaS s0 :: l.map (fun x => itoaS x.1 ++ slash ++ itoaS x.2) ∧ (0 ≤ s0 ∧ s0 < 10000000) ∧ (0 ≤ p.days ∧ p.days < 10000000) ∧ ∀ x ∈ l, (0 ≤ x.1 ∧ x.1 < 10000000) ∧ 0 ≤ x.2 ∧ x.2 < 10000000 := by
  obtain ⟨s0, l, hp, hs0, hdy, hok, a6, a7⟩ := right_pat h
  have hw := write_bl (hp ▸ h)
  rw [← hp] at hw
  unfold headT at hw
  simp only [List.append_assoc] at hw
  have k1 : rdC1 (writeQ p) = (⟨([] : List UInt8).toArray⟩, ⟨(bl (itoaS p.days) ++ (bl sFrom ++ (bl (textR p.first) ++ (bl sColon ++ (bl (itoaS s0) ++ tailT l))))).toArray⟩, true) :=
    cutG_hit (A := []) hw rfl (fun x hx => by cases hx)
  have k2 : rdC2 (writeQ p) = (⟨(bl (itoaS p.days)).toArray⟩, ⟨(bl (textR p.first) ++ (bl sColon ++ (bl (itoaS s0) ++ tailT l))).toArray⟩, true) := by
    unfold rdC2; rw [k1]
    exact cutG_hit (bl_mk _) rfl (itoa_ne hdy.1 (.inl (by decide)))
  have k3 : rdC3 (writeQ p) = (⟨(bl (textR p.first)).toArray⟩, ⟨(bl (itoaS s0) ++ tailT l).toArray⟩, true) := by
    unfold rdC3; rw [k2]
    exact cutG_hit (bl_mk _) rfl (text_ne (by decide))
  have k4 : rdPs (writeQ p) = (bl (itoaS s0) :: l.map (fun x => bl (itoaS x.1) ++ (bl slash ++ bl (itoaS x.2)))).map fun x => ⟨x.toArray⟩ := by
    unfold rdPs; rw [k3]
    refine splitG_join (c := 44) (tl := [32]) rfl ?_ (itoa_ne hs0.1 (.inl (by decide))) (fun y hy x hx => ?_)
    · rw [bl_mk]
      congr 1
      unfold tailT
      rw [List.map_map]; rfl
    · obtain ⟨z, hz, rfl⟩ := List.mem_map.1 hy
      obtain ⟨⟨b1, _⟩, b3, _⟩ := a6 z hz
      rcases List.mem_append.1 hx with hx | hx
      · exact itoa_ne b1 (.inl (by decide)) x hx
      rcases List.mem_append.1 hx with hx | hx
      · rw [show x = 47 from List.mem_singleton.1 hx]; decide
      · exact itoa_ne b3 (.inl (by decide)) x hx
  refine ⟨s0, l, hp, by rw [k1], by rw [k2], by rw [k2]; exact bl_str _, by rw [k3], by rw [k3]; exact bl_str _, ?_, hs0, hdy, a6⟩
  rw [k4, List.map_cons, List.map_map, bl_str]
  congr 1
  refine List.map_congr_left fun x _ => bl_inj ?_
  show bl ⟨_⟩ = _
  rw [bl_mk, bl_app, bl_app, List.append_assoc]
theorem pc_split {x : Int × Int} (h : (0 ≤ x.1 ∧ x.1 < 10000000) ∧ 0 ≤ x.2 ∧ x.2 < 10000000) (k : Nat) : pcS (k + 1) (itoaS x.1 ++ slash ++ itoaS x.2) = itoaS x.1 ∧ pcL (k + 1) (itoaS x.1 ++ slash ++ itoaS x.2) = itoaS x.2 := by
  have hc : cutG (itoaS x.1 ++ slash ++ itoaS x.2) slash = (⟨(bl (itoaS x.1)).toArray⟩, ⟨(bl (itoaS x.2)).toArray⟩, true) :=
    cutG_hit (by rw [bl_app, bl_app, List.append_assoc]) rfl (itoa_ne h.1.1 (.inl (by decide)))
  unfold pcS pcL
  rw [if_pos (Nat.succ_pos _), if_pos (Nat.succ_pos _), hc]
  exact ⟨bl_str _, bl_str _⟩
theorem prog_hit {p : Pat} (h : rightQ p) : rdF (writeQ p) (rdPs (writeQ p)).length = true ∧ rdS (writeQ p) (rdPs (writeQ p)).length = p.st ∧ rdL (writeQ p) (rdPs (writeQ p)).length = p.lv ∧ atoiV (rdC2 (writeQ p)).1 = p.days ∧ (rdC3 (writeQ p)).1 = textR p.first := by
  obtain ⟨s0, l, hp, c1, c2, c3, c4, c5, c6, hs0, hdy, hx⟩ := prog_parts h
  generalize writeQ p = s at c1 c2 c3 c4 c5 c6 ⊢
  have hlen : (rdPs s).length = l.length + 1 := by rw [c6]; simp
  have hz : atoiV (⟨#[48]⟩ : ByteArray) = 0 ∧ atoiB (⟨#[48]⟩ : ByteArray) = true := by
    have e : itoaS ((0 : Nat) : Int) = ⟨#[48]⟩ := by rw [itoaS_nat, dec_small (by decide)]; rfl
    have := atoi_itoa (n := ((0 : Nat) : Int)) (by decide) (by decide)
    rw [e] at this; exact this
  have key : ∀ k, k ≤ l.length → rdF s (k + 1) = true ∧ rdS s (k + 1) = s0 :: (l.take k).map (·.1) ∧ rdL s (k + 1) = 0 :: (l.take k).map (·.2) := by
    intro k
    induction k with
    | zero =>
      intro _
      have e0 : (rdPs s).getD 0 ⟨#[]⟩ = itoaS s0 := by rw [c6]; rfl
      have ha := atoi_itoa hs0.1 hs0.2
      have hd := atoi_itoa hdy.1 hdy.2
      refine ⟨?_, ?_, ?_⟩
      · rw [rdF, rdF, c1, c2, c3, c4, e0, hd.2]
        show (true && atoiB (itoaS s0) && atoiB ⟨#[48]⟩) = true
        rw [ha.2, hz.2]; rfl
      · rw [rdS_succ, e0]
        show [] ++ [atoiV (itoaS s0)] = _
        rw [ha.1]; rfl
      · rw [rdL_succ, e0]
        show [] ++ [atoiV ⟨#[48]⟩] = _
        rw [hz.1]; rfl
    | succ k ih =>
      intro hk
      obtain ⟨i1, i2, i3⟩ := ih (by omega)
      have hk' : k < l.length := by omega
      have e0 : (rdPs s).getD (k + 1) ⟨#[]⟩ = itoaS l[k].1 ++ slash ++ itoaS l[k].2 := by
        rw [c6, List.getD_eq_getElem?_getD, List.getElem?_cons_succ, List.getElem?_map, List.getElem?_eq_getElem hk']; rfl
      have hxk := hx _ (List.getElem_mem hk')
      obtain ⟨s1, s2⟩ := pc_split hxk k
      have b1 := atoi_itoa hxk.1.1 hxk.1.2
      have b2 := atoi_itoa hxk.2.1 hxk.2.2
      refine ⟨?_, ?_, ?_⟩
      · rw [rdF, i1, e0, s1, s2, b1.2, b2.2]; rfl
      · rw [rdS_succ, i2, e0, s1, b1.1, ← List.take_append_getElem hk', List.map_append]; rfl
      · rw [rdL_succ, i3, e0, s2, b2.1, ← List.take_append_getElem hk', List.map_append]; rfl
  obtain ⟨k1, k2, k3⟩ := key l.length (Nat.le_refl _)
  rw [List.take_length] at k2 k3
  rw [hlen]
  have est : p.st = s0 :: l.map (·.1) := by rw [hp]; rfl
  have elv : p.lv = 0 :: l.map (·.2) := by rw [hp]; rfl
  exact ⟨k1, k2.trans est.symm, k3.trans elv.symm, by rw [c3]; exact (atoi_itoa hdy.1 hdy.2).1, c5⟩
end Go.PK

namespace Go.PK
open Go Go.RowKit
theorem itoaS_small {n : Int} (h0 : 0 ≤ n) (h : n < 10) : itoaS n = ⟨#[UInt8.ofNat (48 + (n % 10).toNat)]⟩ := by
  apply bl_inj
  rw [itoaS_nn h0, dec_small (by omega), show (n % 10).toNat = n.toNat by omega]; rfl
theorem itoaS_big {n : Int} (h : 10 ≤ n) : itoaS n = itoaS (n / 10) ++ ⟨#[UInt8.ofNat (48 + (n % 10).toNat)]⟩ := by
  apply bl_inj
  rw [bl_app, itoaS_nn (by omega), itoaS_nn (by omega), dec_big (by omega), show n.toNat / 10 = (n / 10).toNat by omega, show n.toNat % 10 = (n % 10).toNat by omega]; rfl
theorem numF_lt : ∀ (l : List UInt8) (k a : Nat), (∀ c ∈ l, digB8 c = true) → a < 10 ^ k → numF l a < 10 ^ (k + l.length)
  | [], k, a, _, ha => ha
  | x :: l, k, a, hd, ha => by
    have hx := of_decide_eq_true (hd x (List.mem_cons_self ..))
    have e : 10 ^ (k + 1) = 10 * 10 ^ k := by rw [Nat.pow_succ, Nat.mul_comm]
    have := numF_lt l (k + 1) (10 * a + (x.toNat - 48)) (fun y hy => hd y (List.mem_cons_of_mem _ hy)) (by omega)
    rw [List.length_cons, show k + (l.length + 1) = k + 1 + l.length by omega]
    exact this
theorem numF_lt8 {l : List UInt8} (hd : ∀ c ∈ l, digB8 c = true) (hl : l.length ≤ 8) : numF l 0 < 100000000 := by
  have h := numF_lt l 0 0 hd (by decide)
  have : 10 ^ (0 + l.length) ≤ 10 ^ 8 := Nat.pow_le_pow_right (by decide) (by omega)
  have e8 : (10 : Nat) ^ 8 = 100000000 := by decide
  omega
theorem tw_take : ∀ (l : List UInt8) (k : Nat), (∀ c ∈ l.take k, digB8 c = true) → k ≤ l.length → (∀ h : k < l.length, digB8 l[k] = false) → l.takeWhile digB8 = l.take k
  | l, k, hd, hk, hs => by
    have := tw_dig (l.take k) (l.drop k) hd (fun c hc => by
      by_cases h : k < l.length
      · rw [List.drop_eq_getElem_cons h] at hc
        injection hc with hc
        rw [← hc]; exact hs h
      · rw [List.drop_eq_nil_of_le (by omega)] at hc; cases hc)
    rwa [List.take_append_drop] at this
theorem tw_ge : ∀ (l : List UInt8) (k : Nat), (∀ c ∈ l.take k, digB8 c = true) → (l.takeWhile digB8).take k = l.take k
  | _, 0, _ => by rw [List.take_zero, List.take_zero]
  | [], k + 1, _ => rfl
  | c :: l, k + 1, h => by
    rw [List.take_succ_cons] at h ⊢
    rw [List.takeWhile_cons, h c (List.mem_cons_self ..), if_pos rfl, List.take_succ_cons, tw_ge l k (fun x hx => h x (List.mem_cons_of_mem _ hx))]
theorem digP_stop {l : List UInt8} {k : Nat} (hd : ∀ c ∈ l.take k, digB8 c = true) (hk : k ≤ l.length) (h8 : k ≤ 8) (hs : k = 8 ∨ ∀ h : k < l.length, digB8 l[k] = false) : digP l = l.take k := by
  unfold digP
  rcases hs with rfl | hs
  · exact tw_ge l 8 hd
  · rw [tw_take l k hd hk hs, List.take_of_length_le (by rw [List.length_take]; omega)]
theorem val_at' {s : ByteArray} {i k : Nat} (hd : ∀ c ∈ ((bl s).drop i).take k, digB8 c = true) (hk : k ≤ ((bl s).drop i).length) (h8 : k ≤ 8) (hs : k = 8 ∨ ∀ h : k < ((bl s).drop i).length, digB8 ((bl s).drop i)[k] = false) :
    (valR s i = (0, i + k, false) ∧ (k = 0 ∨ 7 < k ∨ (1 < k ∧ (byteAt s i).toNat = 48))) ∨ (valR s i = (((numF (((bl s).drop i).take k) 0 : Nat) : Int), i + k, true) ∧ ¬(k = 0 ∨ 7 < k ∨ (1 < k ∧ (byteAt s i).toNat = 48))) := by
  have e := digP_stop hd hk h8 hs
  have hl : (((bl s).drop i).take k).length = k := by rw [List.length_take]; omega
  have hb : 0 < k → (((bl s).drop i).take k).head? = some (byteAt s i) := fun h0 => by
    have h1 : i < (bl s).length := by rw [List.length_drop] at hk; omega
    obtain ⟨k', rfl⟩ : ∃ k', k = k' + 1 := ⟨k - 1, by omega⟩
    rw [List.drop_eq_getElem_cons h1, List.take_succ_cons, ← bl_get h1]; rfl
  unfold valR
  rw [e, hl]
  by_cases hc : canonL (((bl s).drop i).take k) ∧ k ≤ 7
  · rw [if_pos hc]
    refine .inr ⟨rfl, ?_⟩
    rintro (h | h | ⟨h, h2⟩)
    · exact hc.1.1 (by rw [h, List.take_zero])
    · omega
    · refine hc.1.2.2 (by rw [hl]; exact h) ?_
      rw [hb (by omega)]
      exact congrArg some (UInt8.toNat_inj.1 h2)
  · rw [if_neg hc]
    refine .inl ⟨rfl, ?_⟩
    by_cases h0 : k = 0
    · exact .inl h0
    by_cases h7 : 7 < k
    · exact .inr (.inl h7)
    refine .inr (.inr ?_)
    by_cases h1 : 1 < k
    · refine ⟨h1, Classical.byContradiction fun h48 => hc ⟨⟨fun h => by rw [h] at hl; exact h0 hl.symm, hd, fun _ h => ?_⟩, by omega⟩⟩
      rw [hb (by omega)] at h
      injection h with h
      exact h48 (by rw [h]; rfl)
    · exact absurd ⟨⟨fun h => by rw [h] at hl; exact h0 hl.symm, hd, fun h => by rw [hl] at h; omega⟩, by omega⟩ hc
theorem tail_step {s : ByteArray} {f nx : Nat} (h : nx < s.size) : tailR s (f + 1) nx = if (hasR s nx sComma && (valR s (nx + 2)).2.2 && hasR s (valR s (nx + 2)).2.1 slash && (valR s ((valR s (nx + 2)).2.1 + 1)).2.2) = true then (tailR s f (valR s ((valR s (nx + 2)).2.1 + 1)).2.1).map (((valR s (nx + 2)).1, (valR s ((valR s (nx + 2)).2.1 + 1)).1) :: ·) else none := by
  rw [tailR, if_pos h]
theorem tail_end {s : ByteArray} {f nx : Nat} (h : ¬nx < s.size) : tailR s (f + 1) nx = some [] := by rw [tailR, if_neg h]
theorem opt_map_cons {α : Type} (o : Option (List α)) (l : List α) (x : α) : (o.map (x :: ·)).map (l ++ ·) = o.map ((l ++ [x]) ++ ·) := by
  cases o with
  | none => rfl
  | some m => simp
end Go.PK

namespace Go.PK
open Go Go.RowKit
theorem Mem.made1 {w w' : World} {own : List (Nat × Obj)} {ro : List Snap} (hm : Mem w own ro) (hl : Later w w') {g : Nat} {o : Obj} (hg : w.heap.size ≤ g) (ho : w'.heap[g]? = some o) : Mem w' ((g, o) :: own) ro where
  own_at := fun p hp => by
    rcases List.mem_cons.1 hp with rfl | hp
    · exact ho
    · exact (hm.later hl).own_at p hp
  own_nd := by
    simp only [List.map_cons, List.nodup_cons]
    refine ⟨fun h => ?_, hm.own_nd⟩
    obtain ⟨p, hp, he⟩ := List.mem_map.1 h
    have := hm.lt hp
    omega
  ro_st := (hm.later hl).ro_st
  ro_at := (hm.later hl).ro_at
  apart := fun p hp s hs hd => by
    rcases List.mem_cons.1 hp with rfl | hp
    · exact Nat.le_trans (hm.ro_st s hs).2.2.2 hg
    · exact hm.apart p hp s hs hd
theorem Mem.ofRow {w w' : World} {own : List (Nat × Obj)} {ro : List Snap} {e : TypeId} {size n B : Nat} {v : Value} {xs : List Value} (hm : Mem w own ro) (hl : Later w w') (hB : w.heap.size ≤ B) (h : w'.ownsRow B e size v n xs) :
    ∃ r, v = rowV r n ∧ rowOK size r n xs ∧ Mem w' (rowO e r ++ own) ro := by
  obtain ⟨h1, h2⟩ := h
  rcases h2 with ⟨rfl, rfl⟩ | ⟨g, cap, cur, rfl, hg, hh, hnc, hcm, hcs, htk⟩
  · exact ⟨none, rfl, ⟨h1, rfl⟩, hm.later hl⟩
  · exact ⟨some (g, cur.toList, cap), rfl, ⟨h1, hnc, hcm, by simpa using hcs, htk⟩, hm.made1 hl (by omega) (by simpa using hh)⟩
end Go.PK

namespace Go.PK
open Go Go.RowKit
theorem run_copy_own {P : Program} (w : World) (dT sT ty elem : TypeId) (size : Nat) (g o dLen dCap : Nat) (a : Addr) (sLen sCap : Nat) (cur : Array Value) (t : TypeId) (cs : List Value)
    (hu : P.underlying dT = some (.slice elem)) (hs : (P.info? elem).map (·.size) = some size)
    (hg : w.heap[g]? = some (.cells cur t (0, 0))) (hn : cs.length = Nat.min sLen dLen * size)
    (hsrc : ∀ j v, cs[j]? = some v → w.cell? (a.add j) = some v) (hfit : o + cs.length ≤ cur.size) (h1 : ∀ v ∈ cs, v.oneCell' = true) :
    (Builtin.copy_ #[dT, sT] ty #[.slice (some ⟨g, o, none⟩) dLen dCap, .slice (some a) sLen sCap]).run P w =
      .ok (goInt (Nat.min sLen dLen)) (w.setRow g (cur.toList.take o ++ cs ++ cur.toList.drop (o + cs.length)).toArray) := by
  have hl := run_loadCells_list (P := P) w a cs hsrc
  have hst := run_storeCells_at P g o t cs 0 cur w hg (by simpa using hfit) h1
  cases hq : P.info? elem with
  | none => simp [hq] at hs
  | some i =>
    have hi : i.size = size := by simpa [hq] using hs
    have hn' : min sLen dLen * size = cs.length := hn.symm
    simp [Builtin.copy_, run_underlying hu, Builtin.lenOf, Builtin.firstCells, sizeOf, typeInfo, hq, hi, hn', hl, hst]
theorem Turned.row {w : World} {g : Nat} {cur row : Array Value} {t : TypeId} (hg : w.heap[g]? = some (.cells cur t (0, 0))) : Turned w (w.setRow g row) g (.cells row t (0, 0)) where
  os := rfl
  tape := rfl
  output := rfl
  size := by simp [World.setRow]
  at_ := setRow_heap w g cur row t _ hg
  other := fun k hk => by simp only [World.setRow]; rw [Array.getElem?_modify]; rw [if_neg (fun e => hk e.symm)]
section
variable {P : Program} {n : Nat} {l : List (Nat × Value)} {own : List (Nat × Obj)} {ro : List Snap} {lops : List Oper} {Q : Exit → Act → World → Prop} {K : Act → World → Prop}
  {rest : List (Option Bool × Nat)} {k : Option Bool} {i d : Nat} {op : Op} {ty : TypeId} {pos : String} {af : Array Edge} {x y z' : Operand} {t t1 t2 : TypeId}
theorem x_copy {e : TypeId} {size b o1 dl dc sb so sl sc m : Nat} {cs news : List Value} {te : TypeId} (l1 : List (Nat × Obj)) {l2 : List (Nat × Obj)} (ho : lops[i]? = some ⟨some d, .call ⟨.builtin .copy, #[x, y], #[t1, t2]⟩, ty, pos, af, none⟩) (hd : decide (d < n) = true)
    (hx : ev l x = some (.slice (some ⟨b, o1, none⟩) dl dc)) (hy : ev l y = some (.slice (some ⟨sb, so, none⟩) sl sc)) (hown : own = l1 ++ (b, .cells cs.toArray te (0, 0)) :: l2)
    (ht : P.underlying t1 = some (.slice e)) (hi : (P.info? e).map (·.size) = some size) (hmin : Nat.min sl dl = m)
    (hl : news.length = m * size) (hat : ∀ j (hj : j < news.length), At own ro sb (so + j) news[j]) (h1 : news.all (fun u => u.oneCell') = true) (hfit : o1 + news.length ≤ cs.length)
    (h : WX P lops.toArray Q K rest n ((d, .int .i64 (m : Nat)) :: l) (l1 ++ (b, .cells (cs.take o1 ++ news ++ cs.drop (o1 + news.length)).toArray te (0, 0)) :: l2) ro) : WX P lops.toArray Q K ((none, i) :: rest) n l own ro := by
  subst hmin
  intro a w ha hw
  have hd' : d < n := of_decide_eq_true hd
  have hw1 := go_none (lops := lops) (n := n) (l := l) (o := ⟨some d, .call ⟨.builtin .copy, #[x, y], #[t1, t2]⟩, ty, pos, af, none⟩) rfl a ha
  simp only [wpX, List.getElem?_toArray, ho]
  intro w' hl'
  rw [if_pos hw1]
  have hM := hw.later hl'
  have hnews : ∀ j u, news[j]? = some u → w'.cell? ((⟨sb, so, none⟩ : Addr).add j) = some u := fun j u hu => by
    obtain ⟨hj, rfl⟩ := List.getElem?_eq_some_iff.1 hu
    rw [mk_add]
    exact hat j hj w' hM
  have hb : w'.heap[b]? = some (.cells cs.toArray te (0, 0)) := hM.own_at (b, _) (by rw [hown]; simp)
  have hrun := run_copy_own (P := P) w' t1 t2 ty e size b o1 dl dc ⟨sb, so, none⟩ sl sc cs.toArray te news ht hi hb hl hnews (by simpa using hfit) (by simpa using h1)
  subst hown
  have hM2 := hM.turn (Turned.row (row := (cs.take o1 ++ news ++ cs.drop (o1 + news.length)).toArray) hb)
  unfold Oper.wp execOp
  simp only [resolve, invoke, builtin, Sem.run_bind, Sem.run_pure, Result.andThen_ok, List.map_toArray, List.map_cons, List.map_nil, ha.eval hx, ha.eval hy, hrun]
  exact h _ _ (ha.put _ hd') hM2
theorem x_turnV {τ : Type} {f : FuncId} {fn : Func} {xs : Array Operand} {tys : Array TypeId} {c : Operand} {vs : List Value} {fst cap : Array Value} (V : τ → Value) (R : τ → Prop) (O : τ → List (Nat × Obj)) (ho : lops[i]? = some ⟨some d, .call ⟨.value c, xs, tys⟩, ty, pos, af, none⟩) (hd : decide (d < n) = true)
    (hcal : ev l c = some (.func (.func f) fst cap)) (hf : P.funcs[f]? = some fn) (hbody : (!(fn.name == "runtime.NumGoroutine") && fn.body.isSome) = true) (hx : evs l xs.toList = some vs)
    (hc : ∀ w, Mem w own ro → Calls P f (fst ++ vs.toArray ++ cap) w fun e w' => ∃ x, e = .returned (V x) ∧ R x ∧ Mem w' (O x) ro)
    (h : ∀ x, R x → WX P lops.toArray Q K rest n ((d, V x) :: l) (O x) ro) : WX P lops.toArray Q K ((none, i) :: rest) n l own ro := by
  intro a w ha hw
  have hd' : d < n := of_decide_eq_true hd
  have hw1 := go_none (lops := lops) (n := n) (l := l) (o := ⟨some d, .call ⟨.value c, xs, tys⟩, ty, pos, af, none⟩) rfl a ha
  simp only [wpX, List.getElem?_toArray, ho]
  intro w' hl
  rw [if_pos hw1]
  unfold Oper.wp
  rw [run_callv rfl ha hcal hf hbody hx]
  refine Calls.mono (hc w' (hw.later hl)) fun e w2 he => ?_
  obtain ⟨x, rfl, hr, hm⟩ := he
  exact h x hr _ w2 (ha.put _ hd') hm
theorem x_append_zeros {e : TypeId} {z : Value} {size bytes m n0 c0 : Nat} {kq kn : IntKind} {A : Option Addr} {olds : List Value} (ho : lops[i]? = some ⟨some d, .call ⟨.builtin .append, #[x, y], #[t, t2]⟩, ty, pos, af, none⟩) (hd : decide (d < n) = true)
    (hx : ev l x = some (.slice A n0 c0)) (hy : ev l y = some (.int kq (m : Nat))) (hno : A = none → n0 = 0) (hm0 : 0 < m) (hroom : c0 < n0 + m)
    (holds : ∀ w, Mem w own ro → ∀ a, A = some a → ∀ j u, olds[j]? = some u → w.cell? (a.add j) = some u) (hlo : olds.length = n0 * size)
    (ht : P.underlying t = some (.slice e)) (htn : P.underlying t2 = some (.int kn)) (hi : (P.info? e).map (fun j => (j.zero, j.size, j.bytes)) = some (some z, size, bytes)) (hz : (decide (z.cells.size = size) && decide (0 < size)) = true)
    (hb1 : n0 + m ≤ maxLen) (hb2 : (n0 + m) * bytes ≤ 140737488355328)
    (h : ∀ (b : Nat) (cs : List Value) (cap : Nat), n0 + m ≤ cap → cap ≤ maxLen → cs.length = cap * size → cs.take (n0 * size) = olds → WX P lops.toArray Q K rest n ((d, .slice (some ⟨b, 0, none⟩) (n0 + m) cap) :: l) ((b, .cells cs.toArray e (0, 0)) :: own) ro) : WX P lops.toArray Q K ((none, i) :: rest) n l own ro := by
  intro a w ha hw
  have hd' : d < n := of_decide_eq_true hd
  have hw1 := go_none (lops := lops) (n := n) (l := l) (o := ⟨some d, .call ⟨.builtin .append, #[x, y], #[t, t2]⟩, ty, pos, af, none⟩) rfl a ha
  simp only [wpX, List.getElem?_toArray, ho]
  intro w' hl'
  rw [if_pos hw1]
  have hM := hw.later hl'
  obtain ⟨inf, hi1, hi2⟩ := Option.map_eq_some_iff.1 hi
  simp only [Prod.mk.injEq] at hi2
  obtain ⟨hiz, his, hib⟩ := hi2
  simp only [Bool.and_eq_true, decide_eq_true_eq] at hz
  subst his
  subst hib
  have hold : (Builtin.firstCells inf.size n0 (.slice A n0 c0)).run P w'.drew = .ok olds.toArray w'.drew := by
    cases A with
    | none =>
      obtain rfl := hno rfl
      obtain rfl : olds = [] := List.eq_nil_of_length_eq_zero (by rw [hlo, Nat.zero_mul])
      exact run_firstCells_none w'.drew inf.size 0 0 c0
    | some a0 => exact run_firstCells_some w'.drew inf.size n0 a0 n0 c0 olds hlo (by simpa using holds w' hM a0 rfl)
  have hmax : n0 + m ≤ 9223372036854775807 := by simp only [maxLen] at hb1; omega
  have hr := Lib.run_append_grow_zeros w' t t2 ty e inf z kq kn ht htn hi1 hiz A n0 c0 olds hold m hm0 hz.2 hroom (by omega) (by have := Nat.mul_le_mul_right inf.bytes (Nat.le_add_left m n0); omega) (growslice_fits hroom hb2)
  have hge := grownCap_ge w' (n0 + m) c0 e
  have hcm : grownCap w' (n0 + m) c0 e ≤ maxLen := grownCap_le_maxLen w' (n0 + m) c0 e hb1
  generalize grownCap w' (n0 + m) c0 e = cap at hr hge hcm
  have hM2 : Mem (w'.drew.alloc (.cells (olds.toArray ++ Builtin.zeroCells z.cells m ++ Builtin.zeroCells z.cells (cap - (n0 + m))) e)) ((w'.heap.size, .cells (olds ++ ((Builtin.zeroCells z.cells m ++ Builtin.zeroCells z.cells (cap - (n0 + m))).toList)).toArray e (0, 0)) :: own) ro := by
    have h3 := (hM.later (Later.drew w')).new (.cells (olds.toArray ++ Builtin.zeroCells z.cells m ++ Builtin.zeroCells z.cells (cap - (n0 + m))) e)
    have e1 : (olds ++ ((Builtin.zeroCells z.cells m ++ Builtin.zeroCells z.cells (cap - (n0 + m))).toList)).toArray = olds.toArray ++ Builtin.zeroCells z.cells m ++ Builtin.zeroCells z.cells (cap - (n0 + m)) := by
      apply Array.ext'
      simp
    rw [e1]
    exact h3
  unfold Oper.wp execOp
  simp only [resolve, invoke, builtin, Sem.run_bind, Sem.run_pure, Result.andThen_ok, List.map_toArray, List.map_cons, List.map_nil, ha.eval hx, ha.eval hy, hr]
  refine h w'.heap.size _ cap hge hcm ?_ ?_ _ _ (ha.put _ hd') hM2
  · simp only [List.length_append, Array.length_toList, Array.size_append, size_zeroCells, hz.1, hlo, ← Nat.add_mul]
    congr 1
    omega
  · rw [← hlo]; exact List.take_left
end
section
variable {P : Program} {n : Nat} {l : List (Nat × Value)} {own : List (Nat × Obj)} {ro : List Snap} {ty : TypeId} {x y : Operand} {t : TypeId}
theorem v_cap {e : TypeId} {A : Option Addr} {m c : Nat} (ht : P.underlying t = some (.slice e)) (hx : ev l x = some (.slice A m c)) : OpV P n l own ro (.call ⟨.builtin .cap, #[x], #[t]⟩) ty (.int .i64 c) := by
  intro a w o ha _ ho _
  simp [execOp, ho, resolve, invoke, builtin, ha.eval hx, Builtin.cap_, run_underlying ht, goInt]
theorem v_overlaps {f : FuncId} {fn : Func} {tys : Array TypeId} {tR e te1 te2 : TypeId} {size na nb oa ob la ca lb cb : Nat} {ca1 cb1 : List Value}
    (hf : P.funcs[f]? = some fn) (hname : (fn.name == "runtime.NumGoroutine") = false) (hb : fn.body.isNone = true) (hn : Extern.findNext fn = none) (he : Extern.find fn = some (Extern.SlicesOverlaps.overlaps #[t, t] #[tR]))
    (ht : P.underlying t = some (.slice e)) (hi : (P.info? e).map (·.size) = some size)
    (hx : ev l x = some (.slice (some ⟨na, oa, none⟩) la ca)) (hy : ev l y = some (.slice (some ⟨nb, ob, none⟩) lb cb)) (h1 : (na, Obj.cells ca1.toArray te1 (0, 0)) ∈ own) (h2 : (nb, Obj.cells cb1.toArray te2 (0, 0)) ∈ own) (hne : ∀ w, Mem w own ro → na ≠ nb) (h0 : cb1.length ≠ 0) :
    OpV P n l own ro (.call ⟨.value (.func f), #[x, y], tys⟩) ty (.bool false) := by
  intro a w o ha hw ho _
  have hq : a.eval (.func f) = .func (.func f) #[] #[] := rfl
  have hA := hw.own_at _ h1
  have hB := hw.own_at _ h2
  have h4 := Lib.run_overlaps_apart (P := P) w t tR e ht size (fun w => run_sizeOf hi) ⟨na, oa, none⟩ ⟨nb, ob, none⟩ la ca lb cb (hne w hw) te1 te2 ca1.length cb1.length
    (by simp [World.shape?, hA]) (by simp [World.shape?, hB]) h0 (by simp [World.frozen?, hA]) (by simp [World.frozen?, hA])
  simp [execOp, ho, resolve, hq, ha.eval hx, ha.eval hy, Deferred.ofValue, invoke, run_callFunc_extern hf hname hb hn he]
  rw [h4]
  rfl
theorem v_scut_fromB {e : TypeId} {len cap i m b o : Nat} {kk : IntKind} (ht : P.underlying t = some (.slice e)) (hs : (P.info? e).map (·.size) = some m) (hx : ev l x = some (.slice (some ⟨b, o, none⟩) len cap)) (hy : ev l y = some (.int kk (i : Nat))) (hi : i ≤ len) (hc : len ≤ cap) (hlt : i < cap) :
    OpV P n l own ro (.slice t x (some y) none none) ty (.slice (some ⟨b, o + i * m, none⟩) (len - i) (cap - i)) := by
  have h := v_scut_from (n := n) (own := own) (ro := ro) (ty := ty) ht hs hx hy hi hc
  rw [if_neg (by omega), Option.map_some, mk_add] at h
  exact h
end
end Go.PK

namespace Go.PK
open Go Go.RowKit
theorem rowsIn_of {n : Nat} {P : Program} {row : String} {args : Array Value} {w : World} {R : Value → World → Prop} (h : Rows P row args w R) : RowsIn Fence.wide n P row args w R :=
  fun c cs _ => let ⟨v, w', r, s⟩ := h c cs; ⟨v, w', r, stepsIn_wide.2 s⟩
theorem oper_in {lr n : Nat} {P : Program} {o : Oper} {a : Act} {w : World} {K : Act → World → Prop} {Q : Exit → Act → World → Prop} (hd : ∀ c, o.op ≠ .defer c) (h : o.wp P a w K Q) : o.wpIn (Fence.wide.inRound lr) n P a w K Q := by
  refine ⟨fun _ _ => trivial, ?_⟩
  rw [Oper.semAt_eq _ _ _ hd]
  unfold Oper.wp at h
  cases hr : (execOp a.eval o).run P w with
  | ok x w' =>
    rw [hr] at h
    cases x with
    | value v => exact h
    | skip => exact h
    | defer d => exact h
    | enter f args => exact ⟨fun h => by simp [Fence.wide] at h, callsIn_wide.2 h⟩
    | row row args => exact ⟨fun h => by simp [Fence.wide] at h, rowsIn_of h⟩
    | _ => exact h.elim
  | halt x w' =>
    rw [hr] at h
    cases x <;> first | exact h | exact h.elim
theorem any_in {lr n : Nat} {P : Program} {md : Region.Mode} {ops : Array Oper} {Q : Exit → Act → World → Prop} (hlo : ¬LetsOut Q) (hd : ∀ (j : Nat) (o : Oper) c, ops[j]? = some o → o.op ≠ .defer c) :
    ∀ (fuel : Nat) (listed : Array Bool) (a : Act) (w : World), wpAny P md ops Q fuel listed a w → wpAnyIn (Fence.wide.inRound lr) n P md ops Q fuel listed a w
  | 0, _, _, _, h => h
  | fuel + 1, listed, a, w, h => ⟨h.1, fun i hi => by
    have h2 := h.2 i hi
    unfold wpOp at h2
    unfold wpOpIn
    cases ho : ops[i]? with
    | none => rw [ho] at h2; exact any_in hlo hd fuel _ _ _ h2
    | some o =>
      rw [ho] at h2
      dsimp only at h2 ⊢
      split
      · rename_i hw
        rw [if_pos hw] at h2
        rcases h2 with h2 | h2
        · exact oper_in (hd i o · ho) (Oper.wp_mono (fun a' w' hk => any_in hlo hd fuel _ _ _ hk) h2)
        · exact absurd h2.2 hlo
      · rename_i hw
        rw [if_neg hw] at h2
        exact ⟨fun _ _ => trivial, any_in hlo hd fuel _ _ _ h2⟩⟩
section
variable {P : Program}
end
section
variable {P : Program} {oF : List (Nat × Obj)} {rF : List Snap}
theorem wpIn_region_inv {lr k id : Nat} {Q : Exit → Act → World → Prop} {a : Act} {w : World} {l : List Oper} (n : Nat) (t : Pl) (hlo : ¬LetsOut Q) (hd : ∀ (j : Nat) (o : Oper) c, l.toArray[j]? = some o → o.op ≠ .defer c) (hm : P.follows .mixedOrders = true)
    (hB : (Region.noSelect l.toArray && (decide (n = l.toArray.size) || (decide (n < l.toArray.size) && Region.sinkB .any l.toArray n && Region.chainB .any l.toArray n)) && treeB .any l.toArray n false n t (Array.replicate l.toArray.size false)) = true)
    (hw : Mem w oF rF) (h : wpJ P l.toArray oF rF (fun a' w' => ∀ w'', Later w' w'' → wpList P l.toArray Q (l.drop n) a' w'') t a w) : (Code.region id l.toArray true).wpIn (Fence.wide.inRound lr) k P Q a w := by
  simp only [Bool.and_eq_true] at hB
  obtain ⟨⟨hsel, hn⟩, hpl⟩ := hB
  have hnle : n ≤ l.toArray.size := by
    rcases Bool.or_eq_true _ _ ▸ hn with hn | hn
    · simp only [decide_eq_true_eq] at hn; omega
    · simp only [Bool.and_eq_true, decide_eq_true_eq] at hn; omega
  have hnt : ∀ i, i < n → ∀ listed, HeadInv .any l.toArray n listed → listed.getD i true = false → ∀ j ∈ Region.ready .any l.toArray listed, j < n := by
    intro i hin listed inv hun j hj
    rcases Bool.or_eq_true _ _ ▸ hn with hn | hn
    · simp only [decide_eq_true_eq] at hn
      have := ready_lt j hj
      omega
    · simp only [Bool.and_eq_true, decide_eq_true_eq] at hn
      obtain ⟨⟨hn, hs⟩, hc⟩ := hn
      rcases Nat.lt_or_ge j n with h | h
      · exact h
      · exact absurd hj (tail_waits hs hc hn inv _ i rfl hin hun j h)
  have inv0 : HeadInv .any l.toArray n (Array.replicate l.toArray.size false) :=
    ⟨by simp, fun j oj _ hl => (by rw [getD_replicate_false] at hl; cases hl), fun t _ ht => getD_in (by simpa using ht) (getD_replicate_false _ _)⟩
  have H := (wpAnyJ_tree (P := P) (md := .any) (oF := oF) (rF := rF) (Q := fun a' w' => ∀ w'', Later w' w'' → wpList P l.toArray Q (l.drop n) a' w'') (fun a w w' hw hq w'' hw'' => hq w'' (hw.trans hw'')) hsel hnt t n _ a w inv0).1 hpl h
  refine wpIn_region_any hm (any_in hlo hd _ _ _ _ ?_)
  have hdl : (l.drop n).length = l.toArray.size - n := by simp
  have := wpAny_of_canJ (Q' := Q) (g := l.toArray.size - n) (oF := oF) (rF := rF) (fun listed a' w' _ hL => by
    have := wpAny_of_seq (md := .any) (Q' := Q) (l.drop n) n listed a' w' (fun j => by simp [List.getElem?_drop]) (by rw [hdl]; exact hL.1) (hL.2 w' (Later.refl _))
    rwa [hdl] at this) _ _ _ _ (hw.later (Later.drew w)) (wpAnyJ_later (fun _ _ _ _ hw hq => ⟨hq.1, fun w2 h2 => hq.2 w2 (hw.trans h2)⟩) _ _ _ _ _ (Later.drew w) H)
  rw [show n + (l.toArray.size - n) = l.toArray.size by omega] at this
  exact this
theorem rg_invR {lr k id nn : Nat} {l : List (Nat × Value)} {own : List (Nat × Obj)} {ro : List Snap} {Q : Exit → Act → World → Prop} {a : Act} {w : World} {lops : List Oper} (oF : List (Nat × Obj)) (m : Nat) (t : Pl) (hsub : oF.Sublist own) (hlo : ¬LetsOut Q) (hd : lops.all (fun o => match o.op with | .defer _ => false | _ => true) = true) (hm : P.follows .mixedOrders = true)
    (hB : (Region.noSelect lops.toArray && (decide (m = lops.toArray.size) || (decide (m < lops.toArray.size) && Region.sinkB .any lops.toArray m && Region.chainB .any lops.toArray m)) && treeB .any lops.toArray m false m t (Array.replicate lops.toArray.size false)) = true)
    (ha : FH nn l a) (hw : Mem w own ro) (h : S (wpJ P lops.toArray oF ro (fun a' w' => ∀ w'', Later w' w'' → wpList P lops.toArray Q (lops.drop m) a' w'') t) nn l own ro) : (Code.region id lops.toArray true).wpIn (Fence.wide.inRound lr) k P Q a w :=
  wpIn_region_inv m t hlo (fun j o c hj e => by
    rw [List.getElem?_toArray] at hj
    have := List.all_eq_true.1 hd o (List.mem_of_getElem? hj)
    rw [e] at this; cases this) hm hB (hw.less hsub (fun _ h => h)) (h a w ha hw)
end
theorem FH.none {n : Nat} {a : Act} (h1 : a.tmps.size = n) (h2 : a.defers = []) : FH n [] a := ⟨h1, h2, fun s v h => by simp at h⟩
theorem FH.add {n d : Nat} {l : List (Nat × Value)} {a : Act} {v : Value} (h : FH n l a) (hv : a.tmps[d]? = some v) : FH n ((d, v) :: l) a := ⟨h.sz, h.df, fun s u hu => by
  simp only [List.lookup_cons] at hu
  by_cases hs : s = d
  · subst hs; simp at hu; subst hu; exact hv
  · have : (s == d) = false := by simpa using hs
    simp only [this] at hu
    exact h.at_ s u hu⟩
theorem Mem.three {W : World} {b1 b2 b3 : Nat} {o1 o2 o3 : Obj} (h1 : W.heap[b1]? = some o1) (h2 : W.heap[b2]? = some o2) (h3 : W.heap[b3]? = some o3) (n1 : b1 ≠ b2) (n2 : b1 ≠ b3) (n3 : b2 ≠ b3) :
    Mem W [(b1, o1), (b2, o2), (b3, o3)] [(W, notOwn [(b1, o1), (b2, o2), (b3, o3)])] := by
  have h : Mem W [(b1, o1), (b2, o2), (b3, o3)] [] :=
    ⟨(fun p hp => by simp at hp; rcases hp with rfl | rfl | rfl <;> assumption), (by simp; exact ⟨⟨n1, n2⟩, n3⟩), (fun s hs => by cases hs), (fun s hs => by cases hs), (fun p hp s hs => by cases hs)⟩
  exact h.snap
end Go.PK

namespace Go.PK
open Go Go.RowKit
def txTo (ns : List Int) : Nat → ByteArray
  | 0 => ⟨#[]⟩
  | k + 1 => (if 0 < k then txTo ns k ++ slash else txTo ns k) ++ itoaS (ns.getD k 0)
def txN (ns : List Int) : ByteArray := txTo ns ns.length
theorem txTo_bl (x : Int) (xs : List Int) : ∀ k, k ≤ xs.length → bl (txTo (x :: xs) (k + 1)) = bl (itoaS x) ++ (((xs.take k).map fun y => bl (itoaS y)).map (bl slash ++ ·)).flatten
  | 0, _ => by
    rw [txTo, if_neg (Nat.lt_irrefl 0), txTo, bl_app, List.take_zero]
    rw [show bl (⟨#[]⟩ : ByteArray) = [] from rfl, List.nil_append]
    simp
  | k + 1, h => by
    rw [txTo, if_pos (by omega), bl_app, bl_app, txTo_bl x xs k (by omega), ← List.take_append_getElem (show k < xs.length by omega), List.map_append, List.map_append, List.flatten_append]
    have e : (x :: xs).getD (k + 1) 0 = xs[k] := by rw [List.getD_cons_succ, getD_lt]
    rw [e]
    simp only [List.map_cons, List.map_nil, List.flatten_cons, List.flatten_nil, List.append_nil, List.append_assoc]
theorem txN_bl (x : Int) (xs : List Int) : bl (txN (x :: xs)) = bl (itoaS x) ++ ((xs.map fun y => bl (itoaS y)).map (bl slash ++ ·)).flatten := by
  unfold txN
  rw [List.length_cons, txTo_bl x xs xs.length (Nat.le_refl _), List.take_length]
theorem txTo_sz {ns : List Int} (h : ∀ d ∈ ns, in64 d) : ∀ k, k ≤ ns.length → (txTo ns k).size ≤ 22 * k
  | 0, _ => Nat.le_refl _
  | k + 1, hk => by
    have ih := txTo_sz h k (by omega)
    have a := itoaS_size (h _ (by rw [getD_lt (show k < ns.length by omega)]; exact List.getElem_mem _) : in64 (ns.getD k 0))
    have d2 : slash.size = 1 := rfl
    rw [txTo, ByteArray.size_append]
    split
    · rw [ByteArray.size_append]; omega
    · omega
theorem numOK_itoa {n : Int} (h : 0 ≤ n) (h7 : n < 10000000) : numOKb (itoaS n) = true ∧ atoiV (itoaS n) = n := by
  have e10 : (10 : Int) ^ (6 + 1) = 10000000 := by decide
  have hsz := (itoa_sz h 6).2 (by rw [e10]; exact h7)
  have h1 := atoi_digits (itoa_canon h) (by rw [bl_len]; omega)
  rw [itoa_num h] at h1
  obtain ⟨a, b⟩ := numOK_yes h1
  exact ⟨by rw [b, decide_eq_true h, decide_eq_true hsz, decide_eq_true rfl]; rfl, a⟩
theorem tx_nums {ns : List Int} (h0 : ns ≠ []) (h4 : ns.length ≤ 4) (hd : ∀ d ∈ ns, 0 ≤ d ∧ d < 10000000) : numsOf (txN ns) = (ns, true) := by
  obtain ⟨x, xs, rfl⟩ := List.exists_cons_of_ne_nil h0
  have hs : splitG (txN (x :: xs)) slash = (x :: xs).map itoaS := by
    rw [splitG_join (c := 47) (tl := []) (A := bl (itoaS x)) (xs := xs.map fun y => bl (itoaS y)) rfl (txN_bl x xs) (itoa_ne (hd x (List.mem_cons_self ..)).1 (.inl (by decide))) (fun y hy => by
      obtain ⟨z, hz, rfl⟩ := List.mem_map.1 hy
      exact itoa_ne (hd z (List.mem_cons_of_mem _ hz)).1 (.inl (by decide)))]
    rw [List.map_cons, List.map_cons, List.map_map, bl_str]
    refine congrArg (itoaS x :: ·) (List.map_congr_left fun y _ => bl_str _)
  unfold numsOf
  rw [hs, if_pos (by
    rw [List.all_eq_true]; intro y hy
    obtain ⟨z, hz, rfl⟩ := List.mem_map.1 hy
    exact (numOK_itoa (hd z hz).1 (hd z hz).2).1), List.map_map, List.length_map, decide_eq_true h4]
  refine congrArg (·, true) ?_
  have h9 : ∀ y ∈ x :: xs, (atoiV ∘ itoaS) y = id y := fun y hy => (numOK_itoa (hd y hy).1 (hd y hy).2).2
  rw [List.map_congr_left h9, List.map_id]
theorem tx_chars {ns : List Int} (hd : ∀ d ∈ ns, 0 ≤ d) {c : UInt8} (hc : c.toNat < 47 ∨ 57 < c.toNat) : ∀ x ∈ bl (txN ns), x ≠ c := by
  cases ns with
  | nil => intro x hx; cases hx
  | cons y ys =>
    rw [txN_bl]
    intro x hx
    rcases List.mem_append.1 hx with hx | hx
    · exact itoa_ne (hd y (List.mem_cons_self ..)) (by omega) x hx
    · obtain ⟨l, hl, hx⟩ := List.mem_flatten.1 hx
      obtain ⟨m, hm, rfl⟩ := List.mem_map.1 hl
      obtain ⟨z, hz, rfl⟩ := List.mem_map.1 hm
      rcases List.mem_append.1 hx with hx | hx
      · rw [show x = 47 from List.mem_singleton.1 hx]; intro e; rw [← e] at hc; revert hc; decide
      · exact itoa_ne (hd z (List.mem_cons_of_mem _ hz)) (by omega) x hx
def isT (p : Pat) (sk : Bool) (k : Int) : ByteArray := if sk then ⟨#[120]⟩ ++ txN (numsP p k) else txN (numsP p k)
theorem nums_tx {p : Pat} (h : rightQ p) {k : Int} (h0 : 0 ≤ k) (hk : k ≤ 2000000) : numsP p k ≠ [] ∧ (numsP p k).length ≤ 4 ∧ ∀ d ∈ numsP p k, 0 ≤ d ∧ d < 10000000 := by
  have hl := numsP_len h k
  have h1 := h.1.1
  have h2 := h.1.2.1
  refine ⟨fun e => by rw [e] at hl; simp at hl; omega, by omega, fun d hd => ?_⟩
  have := nums_in h h0 hk d hd
  omega
theorem missF_nil {p : Pat} {d last day : Int} {f : Nat} {k : Int} {n : Nat} (h : k < 100000 ∧ n < 1000) : missF p d last day (f + 1) k [] n =
    if p.first + k * p.days + (if k > last then d else 0) > day then [] else ⟨numsP p k, p.first + k * p.days + (if k > last then d else 0)⟩ :: missF p d last day f (k + 1) [] (n + 1) := by
  rw [missF, if_pos h]
theorem missF_cons {p : Pat} {d last day : Int} {f : Nat} {k : Int} {n : Nat} {e : Ent} {r : List Ent} (h : k < 100000 ∧ n < 1000) : missF p d last day (f + 1) k (e :: r) n =
    if k ≥ e.fr then missF p d last day f (e.to + 1) r n else if p.first + k * p.days + (if k > last then d else 0) > day then [] else ⟨numsP p k, p.first + k * p.days + (if k > last then d else 0)⟩ :: missF p d last day f (k + 1) (e :: r) (n + 1) := by
  rw [missF, if_pos h]
def patL (l : List Int) : Pat := if l.length < 2 then madeP 5 30 [] else madeP (l.getD 0 0) (l.getD 1 0) (l.drop 2)
theorem patL_right (l : List Int) : rightQ (patL l) := by unfold patL; split <;> exact made_right _ _ _
theorem patL_rng (l : List Int) : 10000 ≤ (patL l).first ∧ (patL l).first < 20000 := by
  have key : ∀ f d m, 10000 ≤ (madeP f d m).first ∧ (madeP f d m).first < 20000 := fun f d m => by
    have f1 := Int.emod_nonneg f (show (10000 : Int) ≠ 0 by decide)
    have f2 := Int.emod_lt_of_pos f (show (0 : Int) < 10000 by decide)
    show 10000 ≤ 10000 + f % 10000 ∧ 10000 + f % 10000 < 20000
    omega
  unfold patL; split <;> exact key _ _ _
end Go.PK

namespace Go.PK
open Go Go.RowKit
section
variable {P : Program} {m : Nat}
theorem oper_wide {n : Nat} {o : Oper} {a : Act} {w : World} {K : Act → World → Prop} {Q : Exit → Act → World → Prop} (hd : ∀ c, o.op ≠ .defer c) (h : o.wp P a w K Q) : o.wpIn Fence.wide n P a w K Q := by
  refine ⟨fun _ _ => trivial, ?_⟩
  rw [Oper.semAt_eq _ _ _ hd]
  unfold Oper.wp at h
  cases hr : (execOp a.eval o).run P w with
  | ok x w' =>
    rw [hr] at h
    cases x with
    | value v => exact h
    | skip => exact h
    | defer d => exact h
    | enter f args => exact ⟨fun h => by simp [Fence.wide] at h, callsIn_wide.2 h⟩
    | row row args => exact ⟨fun h => by simp [Fence.wide] at h, fun c cs _ => let ⟨v, w', r, s⟩ := h c cs; ⟨v, w', r, stepsIn_wide.2 s⟩⟩
    | _ => exact h.elim
  | halt x w' =>
    rw [hr] at h
    cases x <;> first | exact h | exact h.elim
structure Lets (F : Fence) (m : Nat) (P : Program) : Prop where
  fn : ∀ f, F.fn f
  op : ∀ {o : Oper} {a : Act} {w : World} {K : Act → World → Prop} {Q : Exit → Act → World → Prop}, (∀ c, o.op ≠ .defer c) → o.wp P a w K Q → o.wpIn F m P a w K Q
theorem lets_wide : Lets Fence.wide m P := ⟨fun _ => trivial, fun hd h => oper_wide hd h⟩
theorem lets_round (lr : Nat) : Lets (Fence.wide.inRound lr) m P := ⟨fun _ => trivial, fun hd h => oper_in hd h⟩
theorem no_defer {lops : List Oper} (hd : lops.all (fun o => match o.op with | .defer _ => false | _ => true) = true) {o : Oper} (ho : o ∈ lops) : ∀ c, o.op ≠ .defer c := fun c e => by
  have := List.all_eq_true.1 hd o ho
  rw [e] at this; cases this
theorem listIn_of_X {F : Fence} (hF : Lets F m P) {lops : List Oper} {Q : Exit → Act → World → Prop} {K : Act → World → Prop} (hd : lops.all (fun o => match o.op with | .defer _ => false | _ => true) = true) {j : Nat} (hj : j ≤ lops.length)
    (hK : ∀ a w, K a w → wpListIn F m P lops.toArray Q (lops.drop j) a w) : ∀ (k s : Nat) (a : Act) (w : World), s + k = j → wpX P lops.toArray Q K ((List.range' s k).map fun i => (none, i)) a w → wpListIn F m P lops.toArray Q (lops.drop s) a w
  | 0, s, a, w, hs, h => by
    obtain rfl : s = j := by omega
    exact hK a w (h w (Later.refl _))
  | k + 1, s, a, w, hs, h => by
    have hlt : s < lops.length := by omega
    rw [List.drop_eq_getElem_cons hlt]
    rw [List.range'_succ, List.map_cons] at h
    simp only [wpX, List.getElem?_toArray, List.getElem?_eq_getElem hlt] at h
    have h3 := h w (Later.refl _)
    refine wpListIn_step fun K' hK' => ?_
    split <;> rename_i hw
    · rw [if_pos hw] at h3
      exact hF.op (no_defer hd (List.getElem_mem hlt)) (Oper.wp_mono (fun a' w' hk' => hK' _ _ (listIn_of_X hF hd hj hK k (s + 1) a' w' (by omega) hk')) h3)
    · rw [if_neg hw] at h3
      exact ⟨fun f _ => hF.fn f, hK' _ _ (listIn_of_X hF hd hj hK k (s + 1) _ w (by omega) h3)⟩
end
section
variable {P : Program} {m n : Nat} {l : List (Nat × Value)} {own : List (Nat × Obj)} {ro : List Snap} {F : Fence} {Q : Exit → Act → World → Prop}
def WI (F : Fence) (m : Nat) (P : Program) (c : Code) (Q : Exit → Act → World → Prop) (n : Nat) (l : List (Nat × Value)) (own : List (Nat × Obj)) (ro : List Snap) : Prop :=
  ∀ a w, FH n l a → Mem w own ro → c.wpIn F m P Q a w
theorem wi_seq {x y : Code} (h : WI F m P x (Exit.then (y.wpIn F m P Q) Q) n l own ro) : WI F m P (.seq x y) Q n l own ro := fun a w ha hw => wpIn_seq (h a w ha hw)
theorem wi_block {id : Nat} {c : Code} (h : WI F m P c (Exit.inBlock id Q) n l own ro) : WI F m P (.block id c) Q n l own ro := fun a w ha hw => wpIn_block (h a w ha hw)
theorem wi_skip (h : S (Q .normal) n l own ro) : WI F m P .skip Q n l own ro := fun a w ha hw => wpIn_skip (h a w ha hw)
theorem wi_cond {c : Operand} {x y : Code} {t : Bool} (hc : ev l c = some (.bool t)) (ht : t = true → WI F m P x Q n l own ro) (hf : t = false → WI F m P y Q n l own ro) : WI F m P (.cond c x y) Q n l own ro :=
  fun a w ha hw => wpIn_cond_split (ha.eval hc) (fun h => ht h a w ha hw) (fun h => hf h a w ha hw)
theorem ti_norm {y : Code} (h : WI F m P y Q n l own ro) : S (Exit.then (y.wpIn F m P Q) Q .normal) n l own ro := h
theorem t_k {K : Act → World → Prop} (h : S K n l own ro) : S (Exit.then K Q .normal) n l own ro := h
theorem ri_text (hF : Lets F m P) {id : Nat} {lops : List Oper} (hd : lops.all (fun o => match o.op with | .defer _ => false | _ => true) = true)
    (h : WX P lops.toArray Q (fun a w => Q .normal a w) (tailFrom 0 lops.length) n l own ro) : WI F m P (.region id lops.toArray false) Q n l own ro := fun a w ha hw =>
  wpIn_region_lit (by
    have := listIn_of_X hF (K := fun a w => Q .normal a w) hd (Nat.le_refl _) (fun a w hk => by rw [List.drop_length]; exact hk) lops.length 0 a w (by omega) (h a w ha hw)
    rwa [List.drop_zero] at this)
theorem rg_yield {id : Nat} {lops : List Oper} (j m : Nat) (hd : lops.all (fun o => match o.op with | .defer _ => false | _ => true) = true) (hj : decide (j ≤ lops.length) = true)
    (h : WX P lops.toArray Q (fun a w => wpListIn Fence.wide m P lops.toArray Q (lops.drop j) a w) (tailFrom 0 j) n l own ro) : W P (.region id lops.toArray false) Q n l own ro := fun a w ha hw =>
  (wpIn_wide (n := m)).1 (wpIn_region_lit (by
    have := listIn_of_X (lets_wide (m := m) (P := P)) hd (of_decide_eq_true hj) (fun a w hk => hk) j 0 a w (by omega) (h a w ha hw)
    rwa [List.drop_zero] at this))
theorem s_yield {lops : List Oper} {j d t L : Nat} {xs : Array Operand} {tys : Array TypeId} {ty : TypeId} {pos : String} {af : Array Edge} {vs : List Value} {v : Value} {τ : Type} (I : τ → Prop) (O : τ → List (Nat × Obj))
    (ho : lops[j]? = some ⟨some d, .call ⟨.value (.tmp t), xs, tys⟩, ty, pos, af, none⟩) (hd : decide (d < n) = true) (hf : l.lookup t = some (.func (.yield L) #[] #[])) (hx : evs l xs.toList = some vs) (hm : decide (1 ≤ m) = true)
    (hY : ∀ w, Mem w own ro → YieldAt Fence.wide (m - 1) P L vs.toArray w fun e w' => e = .returned v ∧ ∃ x, I x ∧ Mem w' (O x) ro)
    (h : ∀ x, I x → S (fun a w => wpListIn Fence.wide m P lops.toArray Q (lops.drop (j + 1)) a w) n ((d, v) :: l) (O x) ro) : S (fun a w => wpListIn Fence.wide m P lops.toArray Q (lops.drop j) a w) n l own ro := by
  intro a w ha hw
  have hlt : j < lops.length := (List.getElem?_eq_some_iff.1 ho).1
  have he : lops[j] = ⟨some d, .call ⟨.value (.tmp t), xs, tys⟩, ty, pos, af, none⟩ := by
    rw [List.getElem?_eq_getElem hlt] at ho; exact Option.some.inj ho
  obtain ⟨fn, tmps, assign, body, hy, hR⟩ := hY w hw
  show wpListIn Fence.wide m P lops.toArray Q (lops.drop j) a w
  rw [List.drop_eq_getElem_cons hlt, he]
  refine wpListIn_plain rfl fun K hK => ?_
  refine ⟨fun _ _ => trivial, ?_⟩
  rw [Oper.semAt_eq _ _ _ (fun c e => by cases e)]
  have hev := ha.evals hx
  have hrun : (execOp a.eval ⟨some d, .call ⟨.value (.tmp t), xs, tys⟩, ty, pos, af, none⟩).run P w = .ok (.round L fn tmps assign body) w := by
    have h1 : (xs.map a.eval) = vs.toArray := by
      apply Array.ext'
      rw [Array.toList_map, hev]
    have hft : a.tmps[t]?.getD undef = .func (.yield L) #[] #[] := by rw [ha.at_ t _ hf]; rfl
    simp [execOp, resolve, hft, h1, go_sem, invoke, hy]
  rw [hrun]
  refine ⟨fun _ => of_decide_eq_true hm, ?_⟩
  refine hR.mono ?_
  rintro e w' ⟨rfl, x, hI, hm'⟩
  exact hK _ _ (h x hI _ w' (ha.put v (of_decide_eq_true hd)) hm')
theorem s_rest {lops : List Oper} {j : Nat} (hd : lops.all (fun o => match o.op with | .defer _ => false | _ => true) = true) (hj : decide (j ≤ lops.length) = true)
    (h : WX P lops.toArray Q (fun a w => Q .normal a w) (tailFrom j lops.length) n l own ro) : S (fun a w => wpListIn Fence.wide m P lops.toArray Q (lops.drop j) a w) n l own ro := fun a w ha hw =>
  listIn_of_X lets_wide (K := fun a w => Q .normal a w) hd (Nat.le_refl _) (fun a w hk => by rw [List.drop_length]; exact hk) (lops.length - j) j a w (by have := of_decide_eq_true hj; omega) (h a w ha hw)
end
def recL (st : LoopState) (fn : FuncId) (tmps : Array Value) (ps : Array Tmp) (assign body : Code) (D : Nat) : Loop := { state := st, pending := none, fn, tmps, params := ps, assign, body, defers := D }
theorem turned_put {w : World} {g : Nat} {o o' : Obj} (h : w.heap[g]? = some o) : Turned w (w.putObj g o') g o' := turned_obj h
section
variable {P : Program} {m n : Nat} {l : List (Nat × Value)} {own rest : List (Nat × Obj)} {ro : List Snap} {Q : Exit → Act → World → Prop} {R : Ending → World → Prop} {L : Nat} {fn : FuncId} {tmps : Array Value} {assign body : Code} {D : Nat}
theorem yield_two {w : World} {d1 d2 : Nat} {v1 v2 : Value} (hm : Mem w ((L, .loop (recL .ready fn tmps #[d1, d2] assign body D)) :: rest) ro) (hfh : FH n l ⟨tmps, []⟩) (h1 : decide (d1 < n) = true) (h2 : decide (d2 < n) = true)
    (h : WI (Fence.wide.inRound L) m P assign (Exit.then (fun a w => ∃ w2, (Instr.beginRound L).run P w = .ok () w2 ∧ body.wpIn (Fence.wide.inRound L) m P (roundPost P L R) a w2) (fun _ _ _ => False)) n ((d2, v2) :: (d1, v1) :: l) ((L, .loop (recL .ready fn tmps #[d1, d2] assign body D)) :: rest) ro) :
    YieldAt Fence.wide m P L #[v1, v2] w R := by
  have hl := hm.own_at _ (.head _)
  have hy := run_yield (P := P) (args := #[v1, v2]) hl rfl
  refine ⟨fn, _, assign, body, hy, roundIn_of_wpIn trivial (h _ w ?_ hm)⟩
  have := (hfh.put v1 (of_decide_eq_true h1)).put v2 (of_decide_eq_true h2)
  have e : (#[d1, d2] : Array Tmp).zip #[v1, v2] = #[(d1, v1), (d2, v2)] := by
    apply Array.ext'
    simp
  show FH n ((d2, v2) :: (d1, v1) :: l) { tmps := ((#[d1, d2] : Array Tmp).zip #[v1, v2]).foldl (fun t (q : Tmp × Value) => t.setIfInBounds q.1 q.2) tmps, defers := [] }
  rw [e]
  exact this
theorem s_begin {st : LoopState} {ps : Array Tmp} (hst : st = .ready) (h : WI (Fence.wide.inRound L) m P body (roundPost P L R) n l ((L, .loop (recL .busy fn tmps ps assign body D)) :: rest) ro) :
    S (fun a w => ∃ w2, (Instr.beginRound L).run P w = .ok () w2 ∧ body.wpIn (Fence.wide.inRound L) m P (roundPost P L R) a w2) n l ((L, .loop (recL st fn tmps ps assign body D)) :: rest) ro := by
  subst hst
  intro a w ha hw
  have hl := hw.own_at _ (.head _)
  exact ⟨_, run_beginRound hl rfl, h a _ ha (Mem.turn (l1 := []) hw (turned_put hl))⟩
theorem s_round {ps : Array Tmp} (h : ∀ w', Mem w' ((L, .loop (recL .ready fn tmps ps assign body D)) :: rest) ro → R (.returned (.bool true)) w') :
    S (roundPost P L R .normal) n l ((L, .loop (recL .busy fn tmps ps assign body D)) :: rest) ro := by
  intro a w ha hw
  have hl := hw.own_at _ (.head _)
  exact ⟨_, _, run_endRound none hl, h _ (Mem.turn (l1 := []) hw (turned_put hl))⟩
def SD (D : Nat) (K : Act → World → Prop) (n : Nat) (l : List (Nat × Value)) (own : List (Nat × Obj)) (ro : List Snap) : Prop :=
  ∀ a w, FH n l a → Mem w own ro → K { a with defers := [{ target := .collected D, args := #[] }] } w
theorem w_range {g : Operand} {ps : Array Tmp} {gf : Nat} {lb : Array Value} {τ : Type} (I : τ → Prop) (O : τ → List (Nat × Obj)) (hg : ev l g = some (.func (.func gf) #[] lb)) (eg : ∀ args w, (callFunc gf args).run P w = .ok (.enter gf args) w)
    (hc : ∀ (L D : Nat) (fn : FuncId) (tmps : Array Value) (w1 : World), FH n l ⟨tmps, []⟩ → Mem w1 ((L, .loop (recL .ready fn tmps ps assign body D)) :: (D, .deferred (some [])) :: own) ro →
      Calls P gf (#[.func (.yield L) #[] #[]] ++ lb) w1 fun e w2 => (∃ v, e = .returned v) ∧ ∃ x, I x ∧ Mem w2 ((L, .loop (recL .ready fn tmps ps assign body D)) :: (D, .deferred (some [])) :: O x) ro)
    (h : ∀ D x, I x → SD D (Q .normal) n l ((D, .deferred (some [])) :: O x) ro) : W P (.rangeFunc g ps assign body) Q n l own ro := by
  intro a w ha hw
  refine (wpIn_wide (n := 1)).1 (wpIn_rangeFunc ?_)
  intro fn _
  have hgv := ha.eval hg
  have hdf : a.defers = [] := ha.df
  have h1 : Mem (w.alloc (.deferred (some []))) ((w.heap.size, .deferred (some [])) :: own) ro := hw.new _
  have h2 : Mem ((w.alloc (.deferred (some []))).alloc (.loop (recL .ready fn a.tmps ps assign body w.heap.size))) ((w.heap.size + 1, .loop (recL .ready fn a.tmps ps assign body w.heap.size)) :: (w.heap.size, .deferred (some [])) :: own) ro := by
    have h3 := h1.new (.loop (recL .ready fn a.tmps ps assign body w.heap.size))
    rwa [World.size_alloc] at h3
  have hfh : FH n l ⟨a.tmps, []⟩ := ⟨ha.sz, rfl, ha.at_⟩
  have hC := hc _ _ fn a.tmps _ hfh h2
  have hC2 : CallsIn Fence.wide 0 P gf (#[.func (.yield (w.heap.size + 1)) #[] #[]] ++ lb) ((w.alloc (.deferred (some []))).alloc (.loop (recL .ready fn a.tmps ps assign body w.heap.size))) (rangePost Fence.wide 1 P (w.heap.size + 1) Q { a with defers := [{ target := .collected w.heap.size, args := #[] }] ++ a.defers }) := by
    refine callsIn_wide.2 (Calls.mono hC ?_)
    rintro e w2 ⟨⟨v, rfl⟩, x, hx, hm⟩
    have hl := hm.own_at _ (.head _)
    refine ⟨none, _, run_endLoop hl (by simp [recL]), ?_⟩
    have h4 := Mem.turn (l1 := []) hm (turned_put (o' := .loop { recL .ready fn a.tmps ps assign body w.heap.size with state := .exhausted }) hl)
    have h5 := h _ x hx a _ ha (h4.less (List.sublist_cons_self _ _) (fun _ h => h))
    rw [hdf]
    exact h5
  clear hC h2 h1
  have hres : (resolve a.eval (rangeCall g (w.heap.size + 1)) 0).run P ((w.alloc (.deferred (some []))).alloc (.loop (recL .ready fn a.tmps ps assign body w.heap.size))) = .ok { target := .fn (.func gf) lb, args := #[.func (.yield (w.heap.size + 1)) #[] #[]] } ((w.alloc (.deferred (some []))).alloc (.loop (recL .ready fn a.tmps ps assign body w.heap.size))) := by
    simp only [resolve, hgv]
    simp [go_sem]
  have hinv : ∀ W : World, (invoke (.fn (.func gf) lb) #[.func (.yield (w.heap.size + 1)) #[] #[]]).run P W = .ok (.enter gf (#[.func (.yield (w.heap.size + 1)) #[] #[]] ++ lb)) W := fun W => by simp [invoke, go_sem, eg]
  exact ⟨w.heap.size + 1, [{ target := .collected w.heap.size, args := #[] }], _, _, _, gf, _, _, run_enterLoop_outer _ _ _ _ _, hres, fun _ _ => trivial, hinv _, fun h => by simp [Fence.wide] at h, hC2⟩
theorem enterM {f : FuncId} {fd : Func} {c : Code} {vs : List Value} {w : World} (m : Nat) (hf : P.funcs[f]? = some fd) (hb : fd.body = some c) (hn : fd.ntmps = n) (hv : decide (vs.length ≤ n) = true)
    (h : W P c (bodyPostM Fence.wide m P fd R) n (slots 0 vs) [] [(w, fun _ => True)]) : Calls P f vs.toArray w R := by
  have hv' := of_decide_eq_true hv
  refine callsIn_wide.1 (callsIn_of_wp_marks hf hb trivial ((wpIn_wide (n := m)).2 (h _ w ⟨by simp [hn]; omega, rfl, fun s v hs => ?_⟩ (Mem.init w))) rfl)
  obtain ⟨_, h2⟩ := slots_lookup _ _ _ _ hs
  simp only [Nat.sub_zero] at h2
  have hlt : s < vs.length := (List.getElem?_eq_some_iff.1 h2).1
  show (vs.toArray ++ _)[s]? = some v
  rw [Array.getElem?_append_left (by simpa using hlt)]
  simpa using h2
theorem sd_then {y : Code} (h : SD D (y.wp P Q) n l own ro) : SD D (Exit.then (y.wp P Q) Q .normal) n l own ro := h
theorem sd_block {id : Nat} (h : SD D (Q .normal) n l own ro) : SD D (Exit.inBlock id Q .normal) n l own ro := h
theorem sd_seq {x y : Code} (h : SD D (x.wp P (Exit.then (y.wp P Q) Q)) n l own ro) : SD D ((Code.seq x y).wp P Q) n l own ro := fun a w ha hw => wp_seq (h a w ha hw)
theorem sd_ret (h : SD D (Q .ret) n l own ro) : SD D (Code.ret.wp P Q) n l own ro := fun a w ha hw => wp_ret (h a w ha hw)
def SDL (D : Nat) (P : Program) (ops : Array Oper) (Q : Exit → Act → World → Prop) (r : List Oper) (n : Nat) (l : List (Nat × Value)) (own : List (Nat × Obj)) (ro : List Snap) : Prop :=
  SD D (fun a w => wpList P ops Q r a w) n l own ro
theorem sd_region {id : Nat} {lops : List Oper} (h : SDL D P lops.toArray Q lops n l own ro) : SD D ((Code.region id lops.toArray false).wp P Q) n l own ro := fun a w ha hw => wp_region_lit (h a w ha hw)
theorem sdl_val {ops : Array Oper} {d : Nat} {op : Op} {ty : TypeId} {pos : String} {af : Array Edge} {r : List Oper} {v : Value} (hd : decide (d < n) = true) (hv : OpV P n l own ro op ty v) (h : SDL D P ops Q r n ((d, v) :: l) own ro) :
    SDL D P ops Q (⟨some d, op, ty, pos, af, none⟩ :: r) n l own ro := by
  intro a w ha hw
  refine wpList_step fun K hK => ?_
  rw [if_pos (by simp [Region.wanted])]
  have he : (Act.eval { a with defers := [{ target := .collected D, args := #[] }] }) = a.eval := by funext x; cases x <;> rfl
  unfold Oper.wp
  rw [he, hv a w _ ha hw rfl rfl]
  exact hK _ _ (h _ w (ha.put v (of_decide_eq_true hd)) hw)
theorem sdl_end {ops : Array Oper} (h : SD D (Q .normal) n l own ro) : SDL D P ops Q [] n l own ro := h
theorem ret1M {fd : Func} {t : Tmp} {v : Value} (hr : fd.results = #[.tmp t]) (hv : l.lookup t = some v) (h : ∀ w', Mem w' rest ro → R (.returned v) w') : SD D (bodyPostM Fence.wide m P fd R .ret) n l ((D, .deferred (some [])) :: rest) ro := by
  intro a w ha hw
  have hl := hw.own_at _ (.head _)
  have hm2 := (Mem.turn (l1 := []) hw (turned_put (o' := .deferred none) hl)).less (List.sublist_cons_self _ _) (fun _ h => h)
  refine ⟨by simp, .inl ⟨D, _, rfl, run_takeDeferred hl, v, ?_, h _ hm2⟩⟩
  have := ha.at_ t _ hv
  rw [results_tmp hr]
  simp [Array.getD_eq_getD_getElem?, this]
end
end Go.PK

namespace Go.PK
open Go Go.RowKit
def numG (n : Nat) : List UInt8 := if h : n < 128 then [UInt8.ofNat n] else UInt8.ofNat (n % 128 + 128) :: numG (n / 128)
termination_by n
decreasing_by omega
theorem numG_small {n : Nat} (h : n < 128) : numG n = [UInt8.ofNat n] := by rw [numG, dif_pos h]
theorem numG_big {n : Nat} (h : ¬n < 128) : numG n = UInt8.ofNat (n % 128 + 128) :: numG (n / 128) := by rw [numG, dif_neg h]
theorem numG_len : ∀ (k n : Nat), n < 128 ^ (k + 1) → (numG n).length ≤ k + 1
  | 0, n, h => by rw [numG_small (by simpa using h)]; exact Nat.le_refl _
  | k + 1, n, h => by
    by_cases hn : n < 128
    · rw [numG_small hn]; simp
    · rw [numG_big hn, List.length_cons]
      have := numG_len k (n / 128) (by rw [Nat.div_lt_iff_lt_mul (by decide), ← Nat.pow_succ]; exact h)
      omega
theorem numG_ten {n : Nat} (h : n < 18446744073709551616) : (numG n).length ≤ 10 := numG_len 9 n (Nat.lt_of_lt_of_le h (by decide))
theorem numG_pos (n : Nat) : 1 ≤ (numG n).length := by
  by_cases hn : n < 128
  · rw [numG_small hn]; exact Nat.le_refl _
  · rw [numG_big hn, List.length_cons]; omega
theorem or128 {c : Nat} (h : c < 128) : orK .u8 (((UInt8.ofNat c).toNat : Nat) : Int) 128 = ((UInt8.ofNat (c + 128)).toNat : Nat) := by
  have key : ∀ c : Fin 128, orK .u8 (((UInt8.ofNat c.val).toNat : Nat) : Int) 128 = ((UInt8.ofNat (c.val + 128)).toNat : Nat) := by decide +kernel
  exact key ⟨c, h⟩
def sgn (n : Int) : Nat := if 0 ≤ n then (2 * n).toNat else (2 * (-1 - n) + 1).toNat
theorem sgn_lt {n : Int} (h : -9223372036854775808 ≤ n ∧ n ≤ 9223372036854775807) : sgn n < 18446744073709551616 := by unfold sgn; split <;> omega
theorem bv_xor0 (a : Int) : (BitVec.ofInt 64 a ^^^ BitVec.ofInt 64 0).toNat = (BitVec.ofInt 64 a).toNat := by simp
theorem bv_xor1 (a : Int) : (BitVec.ofInt 64 a ^^^ BitVec.ofInt 64 18446744073709551615).toNat = 18446744073709551615 - (BitVec.ofInt 64 a).toNat := by
  rw [show BitVec.ofInt 64 18446744073709551615 = BitVec.allOnes 64 by decide, BitVec.xor_allOnes, BitVec.toNat_not]
theorem xor_sgn {n : Int} (h : -9223372036854775808 ≤ n ∧ n ≤ 9223372036854775807) : xorK .u64 (IntKind.u64.wrap (IntKind.u64.wrap n * 2)) (IntKind.u64.wrap (n / 9223372036854775808)) = (sgn n : Nat) := by
  have w64 : ∀ z : Int, IntKind.u64.wrap z = z % 18446744073709551616 := fun z => by simp [IntKind.wrap, IntKind.bits, IntKind.signed]
  unfold xorK
  rw [w64, w64, w64, w64]
  by_cases h0 : 0 ≤ n
  · have e1 : n / 9223372036854775808 = 0 := by omega
    rw [e1, show (0 : Int) % 18446744073709551616 = 0 by decide]
    show (((BitVec.ofInt 64 _ ^^^ BitVec.ofInt 64 0).toNat : Nat) : Int) % _ = _
    rw [bv_xor0, BitVec.toNat_ofInt]
    unfold sgn
    rw [if_pos h0]
    have e2 : n % 18446744073709551616 * 2 % 18446744073709551616 = 2 * n := by omega
    rw [e2]
    have e3 : (2 * n % ((2 ^ 64 : Nat) : Int)).toNat = (2 * n).toNat := by
      have : ((2 ^ 64 : Nat) : Int) = 18446744073709551616 := by decide
      rw [this]; congr 1; omega
    rw [e3]; omega
  · have e1 : n / 9223372036854775808 = -1 := by omega
    rw [e1, show (-1 : Int) % 18446744073709551616 = 18446744073709551615 by decide]
    show (((BitVec.ofInt 64 _ ^^^ BitVec.ofInt 64 18446744073709551615).toNat : Nat) : Int) % _ = _
    rw [bv_xor1, BitVec.toNat_ofInt]
    unfold sgn
    rw [if_neg h0]
    have e2 : n % 18446744073709551616 * 2 % 18446744073709551616 = 18446744073709551616 + 2 * n := by omega
    rw [e2]
    have e3 : ((18446744073709551616 + 2 * n) % ((2 ^ 64 : Nat) : Int)).toNat = (18446744073709551616 + 2 * n).toNat := by
      have : ((2 ^ 64 : Nat) : Int) = 18446744073709551616 := by decide
      rw [this]; congr 1; omega
    rw [e3]; omega
def intsG (l : List Int) : List UInt8 := numG l.length ++ l.flatMap fun n => numG (sgn n)
def packG (l : List ByteArray) : List UInt8 := numG l.length ++ l.flatMap fun s => numG s.size ++ bl s
def intsT (l : List Int) (k : Nat) : List UInt8 := numG l.length ++ (l.take k).flatMap fun n => numG (sgn n)
def packT (l : List ByteArray) (k : Nat) : List UInt8 := numG l.length ++ (l.take k).flatMap fun s => numG s.size ++ bl s
theorem intsT_zero (l : List Int) : intsT l 0 = numG l.length := by simp [intsT]
theorem packT_zero (l : List ByteArray) : packT l 0 = numG l.length := by simp [packT]
theorem intsT_succ {l : List Int} {k : Nat} (h : k < l.length) : intsT l (k + 1) = intsT l k ++ numG (sgn l[k]) := by
  unfold intsT
  rw [← List.take_append_getElem h, List.flatMap_append, List.append_assoc]; simp
theorem packT_succ {l : List ByteArray} {k : Nat} (h : k < l.length) : packT l (k + 1) = packT l k ++ (numG l[k].size ++ bl l[k]) := by
  unfold packT
  rw [← List.take_append_getElem h, List.flatMap_append, List.append_assoc]; simp
theorem intsT_all (l : List Int) : intsT l l.length = intsG l := by unfold intsT intsG; rw [List.take_length]
theorem packT_all (l : List ByteArray) : packT l l.length = packG l := by unfold packT packG; rw [List.take_length]
theorem intsT_len {l : List Int} (hl : l.length < 18446744073709551616) (h : ∀ n ∈ l, -9223372036854775808 ≤ n ∧ n ≤ 9223372036854775807) : ∀ k, k ≤ l.length → (intsT l k).length ≤ 10 + 10 * k
  | 0, _ => by rw [intsT_zero]; exact numG_ten hl
  | k + 1, hk => by
    have ih := intsT_len hl h k (by omega)
    rw [intsT_succ hk, List.length_append]
    have := numG_ten (sgn_lt (h _ (List.getElem_mem hk)))
    omega
theorem packT_len {l : List ByteArray} {N : Nat} (hl : l.length < 18446744073709551616) (h : ∀ s ∈ l, s.size ≤ N) (hN : N < 18446744073709551616) : ∀ k, k ≤ l.length → (packT l k).length ≤ 10 + (N + 10) * k
  | 0, _ => by rw [packT_zero]; exact numG_ten hl
  | k + 1, hk => by
    have ih := packT_len hl h hN k (by omega)
    rw [packT_succ hk, List.length_append, List.length_append, bl_len]
    have hs := h _ (List.getElem_mem hk)
    have := numG_ten (show l[k].size < 18446744073709551616 by omega)
    rw [Nat.mul_add, Nat.mul_one]
    omega
theorem u64_wrap {n : Int} (h : 0 ≤ n ∧ n < 18446744073709551616) : IntKind.u64.wrap n = n := by
  simp [IntKind.wrap, IntKind.bits, IntKind.signed]; omega
theorem mk_app (a : List UInt8) (s : ByteArray) : (⟨(a ++ bl s).toArray⟩ : ByteArray) = ⟨a.toArray⟩ ++ s := bl_inj (by rw [bl_app, bl_mk (a ++ bl s), bl_mk a])
section
variable {P : Program} {n : Nat} {l : List (Nat × Value)} {own : List (Nat × Obj)} {ro : List Snap} {ty t t' : TypeId} {x y : Operand} {k k' : IntKind} {a b c : Int}
theorem v_convE {td : TypeDesc} (hs : P.underlying t = some td) (hd : P.underlying t' = some (.int k')) (hx : ev l x = some (.int k a)) (hc : k'.wrap a = c) : OpV P n l own ro (.convert t t' x) ty (.int k' c) := hc ▸ v_conv hs hd hx
theorem v_addE (hx : ev l x = some (.int k a)) (hy : ev l y = some (.int k b)) (hc : k.wrap (a + b) = c) : OpV P n l own ro (.binOp .add t x y t') ty (.int k c) := hc ▸ v_add hx hy
theorem v_mulE (hx : ev l x = some (.int k a)) (hy : ev l y = some (.int k b)) (hc : k.wrap (a * b) = c) : OpV P n l own ro (.binOp .mul t x y t') ty (.int k c) := hc ▸ v_mul hx hy
theorem v_quoE (hx : ev l x = some (.int k a)) (hy : ev l y = some (.int k b)) (h0 : b ≠ 0) (hc : k.wrap (a.tdiv b) = c) : OpV P n l own ro (.binOp .quo t x y t') ty (.int k c) := hc ▸ v_quo hx hy h0
end
end Go.PK

namespace Go.PK
open Go Go.RowKit
def tkE (p : Pat) (text : ByteArray) (day : Int) : Option Ent × Int :=
  if (!(numsOf (tkA text)).2 || !(numsOf (tkB text)).2) = true then (none, 11) else
  if okDay day then
    match numP p (numsOf (tkA text)).1, numP p (numsOf (tkB text)).1 with
    | some i, some j => if j < i ∨ 100 ≤ j - i then (none, 32) else (some ⟨i, j, tkS text, day⟩, 0)
    | _, _ => (none, 32)
  else (none, 1)
def meets (es : List Ent) (x : Ent) : Bool := es.any fun e => decide (x.fr ≤ e.to) && decide (e.fr ≤ x.to)
theorem takeQ_eq (p : Pat) (es : List Ent) (text : ByteArray) (day : Int) : takeQ p es text day = match (tkE p text day).1 with
    | none => (es, (tkE p text day).2)
    | some x => if meets es x then (es, 22) else (insE es x, 0) := by
  unfold takeQ tkE takeP meets
  by_cases h1 : (!(numsOf (tkA text)).2 || !(numsOf (tkB text)).2) = true
  · rw [if_pos h1, if_pos h1]
  · rw [if_neg h1, if_neg h1]
    by_cases h2 : okDay day
    · rw [if_pos h2, if_pos h2]
      cases h3 : numP p (numsOf (tkA text)).1 with
      | none => rfl
      | some i =>
        cases h4 : numP p (numsOf (tkB text)).1 with
        | none => rfl
        | some j =>
          dsimp only
          by_cases h5 : j < i ∨ 100 ≤ j - i
          · rw [if_pos h5, if_pos h5]
          · rw [if_neg h5, if_neg h5]
    · rw [if_neg h2, if_neg h2]
theorem tkE_ok {p : Pat} {text : ByteArray} {day : Int} {x : Ent} (h : (tkE p text day).1 = some x) : entOK x ∧ (tkE p text day).2 = 0 := by
  unfold tkE at h ⊢
  split at h
  · cases h
  · rename_i h1
    rw [if_neg h1]
    split at h
    · rename_i h2
      rw [if_pos h2]
      cases h3 : numP p (numsOf (tkA text)).1 with
      | none => rw [h3] at h; cases h
      | some i =>
        cases h4 : numP p (numsOf (tkB text)).1 with
        | none => rw [h3, h4] at h; cases h
        | some j =>
          rw [h3, h4] at h
          dsimp only at h ⊢
          split at h
          · cases h
          · rename_i h5
            rw [if_neg h5]
            injection h with h
            have r1 := numP_rng p (numsOf (tkA text)).1
            have r2 := numP_rng p (numsOf (tkB text)).1
            rw [h3] at r1; rw [h4] at r2
            simp only [Option.getD_some] at r1 r2
            rw [← h]
            exact ⟨⟨r1.1, by dsimp only; omega, r2.2, by dsimp only; omega, h2⟩, rfl⟩
    · cases h
def srt (es : List Ent) : Prop := es.Pairwise (fun x y => x.to < y.fr) ∧ ∀ x ∈ es, entOK x
theorem srt_nil : srt [] := ⟨List.Pairwise.nil, fun x hx => by cases hx⟩
theorem entOK.le {x : Ent} (h : entOK x) : x.fr ≤ x.to := h.2.1
theorem meets_no {es : List Ent} {x : Ent} (h : meets es x = false) : ∀ e ∈ es, x.to < e.fr ∨ e.to < x.fr := fun e he => by
  unfold meets at h
  rw [List.any_eq_false] at h
  have := h e he
  simp only [Bool.and_eq_true, decide_eq_true_eq] at this
  omega
theorem meets_yes {es : List Ent} {x : Ent} (h : ∃ e ∈ es, x.fr ≤ e.to ∧ e.fr ≤ x.to) : meets es x = true := by
  obtain ⟨e, he, h1, h2⟩ := h
  unfold meets
  rw [List.any_eq_true]
  exact ⟨e, he, by rw [Bool.and_eq_true, decide_eq_true_eq, decide_eq_true_eq]; exact ⟨h1, h2⟩⟩
theorem ins_parts {es : List Ent} {x : Ent} (hs : srt es) (hx : entOK x) (hm : meets es x = false) : ∃ A B, es = A ++ B ∧ insE es x = A ++ x :: B ∧ (∀ e ∈ A, e.to < x.fr) ∧ ∀ e ∈ B, x.to < e.fr := by
  refine ⟨es.take (insI es x.to), es.drop (insI es x.to), (List.take_append_drop _ _).symm, rfl, fun e he => ?_, fun e he => ?_⟩
  · have h1 := meets_no hm e (List.mem_of_mem_take he)
    rcases h1 with h1 | h1
    · obtain ⟨j, hj, rfl⟩ := List.getElem_of_mem he
      rw [List.length_take] at hj
      rw [List.getElem_take] at h1
      have := List.not_of_lt_findIdx (xs := es) (p := fun e : Ent => decide (x.to < e.fr)) (i := j) (show j < List.findIdx _ es by unfold insI at hj; omega)
      rw [decide_eq_true h1] at this; cases this
    · exact h1
  · have hi := insI_le es x.to
    obtain ⟨j, hj, rfl⟩ := List.getElem_of_mem he
    rw [List.length_drop] at hj
    rw [List.getElem_drop]
    have hlt : insI es x.to < es.length := by omega
    have h0 : x.to < es[insI es x.to].fr := by
      have := List.findIdx_getElem (xs := es) (p := fun e : Ent => decide (x.to < e.fr)) (w := hlt)
      exact of_decide_eq_true this
    by_cases hj0 : j = 0
    · subst hj0; exact h0
    · have h1 := List.pairwise_iff_getElem.1 hs.1 (insI es x.to) (insI es x.to + j) hlt (by omega) (by omega)
      have h2 := (hs.2 _ (List.getElem_mem hlt)).le
      omega
theorem ins_srt {es : List Ent} {x : Ent} (hs : srt es) (hx : entOK x) (hm : meets es x = false) : srt (insE es x) ∧ (insE es x).Perm (x :: es) := by
  obtain ⟨A, B, h1, h2, h3, h4⟩ := ins_parts hs hx hm
  rw [h2]
  have hp : (A ++ x :: B).Perm (x :: es) := by rw [h1]; exact List.perm_middle
  refine ⟨⟨?_, fun e he => ?_⟩, hp⟩
  · have hs1 := hs.1
    rw [h1, List.pairwise_append] at hs1
    rw [List.pairwise_append]
    refine ⟨hs1.1, List.pairwise_cons.2 ⟨h4, hs1.2.1⟩, fun a ha b hb => ?_⟩
    rcases List.mem_cons.1 hb with rfl | hb
    · exact h3 a ha
    · exact hs1.2.2 a ha b hb
  · rcases List.mem_cons.1 (hp.subset he) with rfl | he
    · exact hx
    · exact hs.2 e he
theorem srt_eq : ∀ {a b : List Ent}, srt a → srt b → a.Perm b → a = b
  | [], b, _, _, h => (List.nil_perm.1 h).symm
  | x :: a, [], _, _, h => by simpa using h.length_eq
  | x :: a, y :: b, ha, hb, h => by
    have hxy : x = y := by
      rcases List.mem_cons.1 (h.subset (List.mem_cons_self ..)) with h1 | h1
      · exact h1
      · rcases List.mem_cons.1 (h.symm.subset (List.mem_cons_self ..)) with h2 | h2
        · exact h2.symm
        · have h3 := (List.pairwise_cons.1 hb.1).1 x h1
          have h4 := (List.pairwise_cons.1 ha.1).1 y h2
          have h5 := (ha.2 x (List.mem_cons_self ..)).le
          have h6 := (hb.2 y (List.mem_cons_self ..)).le
          omega
    subst hxy
    rw [srt_eq ⟨(List.pairwise_cons.1 ha.1).2, fun e he => ha.2 e (List.mem_cons_of_mem _ he)⟩ ⟨(List.pairwise_cons.1 hb.1).2, fun e he => hb.2 e (List.mem_cons_of_mem _ he)⟩ h.cons_inv]
structure ActD where
  fr : Int
  to : Int
  day : Int
  sk : Bool
  two : Bool
  raw : ByteArray
def actC (a : ActD) : List Value := [.int .i64 a.fr, .int .i64 a.to, .int .i64 a.day, .bool a.sk, .bool a.two, .string a.raw]
def actIn (a : ActD) : Prop := in64 a.fr ∧ in64 a.to ∧ in64 a.day ∧ a.raw.size ≤ 1048576
def tyAct : Ty ActD where
  size := 6
  rd := fun _ _ cs a => cs = actC a ∧ actIn a
  len := fun h => by rw [h.1]; rfl
  keep := fun h _ => h
theorem act_at {D : Nat → Prop} {w : World} {A : Option Addr} {l c : Nat} {xs : List ActD} (h : sliceRd tyAct D w (.slice A l c) xs) {k : Nat} (hk : k < xs.length) :
    ∃ b off, A = some ⟨b, off, none⟩ ∧ D b ∧ (∀ j (hj : j < (actC xs[k]).length), w.cell? ⟨b, off + k * 6 + j, none⟩ = some (actC xs[k])[j]) ∧ actIn xs[k] := by
  obtain ⟨A', c', e, h1, h2, h3⟩ := h
  injection e with e1 e2 e3
  obtain ⟨b, off, hA, hD, hb, hc⟩ := h3 (by omega)
  obtain ⟨cs, hcs, hr, hok⟩ := hc k hk
  subst hr
  exact ⟨b, off, e1.trans hA, hD, fun j hj => hcs j hj, hok⟩
def callT (p : Pat) (a : ActD) : ByteArray := if a.raw ≠ ⟨#[]⟩ then a.raw else
  if a.two then isT p a.sk (a.fr % 200) ++ ⟨#[45]⟩ ++ txN (numsP p (a.to % 320)) else isT p a.sk (a.fr % 200)
def callD (p : Pat) (a : ActD) : Int := IntKind.i64.wrap (p.first + a.day)
theorem txN_sz {p : Pat} (h : rightQ p) {k : Int} (h0 : 0 ≤ k) (hk : k ≤ 2000000) : (txN (numsP p k)).size ≤ 88 := by
  have hz := txTo_sz (nums_in64 h h0 hk) _ (Nat.le_refl _)
  have h4 := (nums_tx h h0 hk).2.1
  unfold txN; omega
theorem isT_sz {p : Pat} (h : rightQ p) {k : Int} (h0 : 0 ≤ k) (hk : k ≤ 2000000) (sk : Bool) : (isT p sk k).size ≤ 89 := by
  have := txN_sz h h0 hk
  unfold isT
  split
  · rw [ByteArray.size_append, show (⟨#[120]⟩ : ByteArray).size = 1 from rfl]; omega
  · omega
theorem callT_sz {p : Pat} (h : rightQ p) {a : ActD} (ha : actIn a) : (callT p a).size ≤ 1048576 := by
  have e1 := Int.emod_nonneg a.fr (show (200 : Int) ≠ 0 by decide)
  have e2 := Int.emod_lt_of_pos a.fr (show (0 : Int) < 200 by decide)
  have e3 := Int.emod_nonneg a.to (show (320 : Int) ≠ 0 by decide)
  have e4 := Int.emod_lt_of_pos a.to (show (0 : Int) < 320 by decide)
  have s1 := isT_sz h e1 (by omega) a.sk
  have s2 := txN_sz h e3 (by omega)
  unfold callT
  split
  · exact ha.2.2.2
  · split
    · rw [ByteArray.size_append, ByteArray.size_append, show (⟨#[45]⟩ : ByteArray).size = 1 from rfl]; omega
    · omega
theorem callD_in (p : Pat) (a : ActD) : in64 (callD p a) := by unfold callD in64; rw [IntKind.wrap_i64]; omega
def entA (p : Pat) (a : ActD) : Option Ent := (tkE p (callT p a) (callD p a)).1
structure Of (p : Pat) (es : List Ent) (gs : List ActD) : Prop where
  srt : srt es
  all : ∀ a ∈ gs, (entA p a).isSome = true
  perm : es.Perm (gs.filterMap (entA p))
theorem Of.nil (p : Pat) : Of p [] [] := ⟨srt_nil, (fun a ha => by cases ha), List.Perm.refl _⟩
theorem apart_of_srt {es : List Ent} (h : srt es) : es.Pairwise fun x y => x.to < y.fr ∨ y.to < x.fr := h.1.imp fun h => .inl h
theorem Of.next {p : Pat} {es es2 : List Ent} {gs g2 : List ActD} (h : Of p es gs) (hp : g2.Perm gs) {k : Nat} (hk : k < g2.length) (h2 : Of p es2 (g2.take k)) : ∃ x, entA p g2[k] = some x ∧ meets es2 x = false ∧ entOK x := by
  have hs : (entA p g2[k]).isSome = true := h.all _ (hp.subset (List.getElem_mem hk))
  obtain ⟨x, hx⟩ := Option.isSome_iff_exists.1 hs
  refine ⟨x, hx, ?_, (tkE_ok hx).1⟩
  have hap : (g2.filterMap (entA p)).Pairwise fun x y => x.to < y.fr ∨ y.to < x.fr :=
    ((apart_of_srt h.srt).perm h.perm (fun h => h.symm)).perm ((hp.symm).filterMap _) (fun h => h.symm)
  have e : g2 = g2.take k ++ g2[k] :: g2.drop (k + 1) := by rw [List.getElem_cons_drop, List.take_append_drop]
  rw [e, List.filterMap_append, List.filterMap_cons, hx, List.pairwise_append] at hap
  cases hm : meets es2 x with
  | false => rfl
  | true =>
    unfold meets at hm
    rw [List.any_eq_true] at hm
    obtain ⟨y, hy, hc⟩ := hm
    rw [Bool.and_eq_true, decide_eq_true_eq, decide_eq_true_eq] at hc
    have := hap.2.2 y (h2.perm.subset hy) x (List.mem_cons_self ..)
    omega
theorem Of.same {p : Pat} {es es2 : List Ent} {gs g2 : List ActD} (h : Of p es gs) (hp : g2.Perm gs) (h2 : Of p es2 g2) : es2 = es :=
  srt_eq h2.srt h.srt (h2.perm.trans ((hp.filterMap _).trans h.perm.symm))
def entI (x : Ent) : List Int := [x.fr, x.to, if x.sk then 1 else 0, x.day]
def entsI (l : List Ent) : List Int := l.flatMap entI
noncomputable def encQ (p : Pat) (es : List Ent) : ByteArray := ⟨(packG [writeQ p, ⟨(intsG (entsI es)).toArray⟩]).toArray⟩
theorem entsI_len (l : List Ent) : (entsI l).length = l.length * 4 := by
  induction l with
  | nil => rfl
  | cons x xs ih => show (entI x ++ entsI xs).length = _; rw [List.length_append, ih, List.length_cons]; show 4 + _ = _; omega
theorem entsI_snoc {l : List Ent} {k : Nat} (h : k < l.length) : entsI (l.take (k + 1)) = entsI (l.take k) ++ entI l[k] := by
  unfold entsI
  rw [← List.take_append_getElem h, List.flatMap_append]; simp
theorem entsI_in {l : List Ent} (h : ∀ x ∈ l, entIn x) : ∀ d ∈ entsI l, in64 d := fun d hd => by
  obtain ⟨x, hx, hd⟩ := List.mem_flatMap.1 hd
  obtain ⟨h1, h2, h3⟩ := h x hx
  simp only [entI, List.mem_cons, List.mem_nil_iff, or_false] at hd
  rcases hd with rfl | rfl | rfl | rfl
  · exact h1
  · exact h2
  · split <;> (unfold in64; decide)
  · exact h3
end Go.PK

namespace Go.PK
open Go Go.RowKit
theorem cut_parts (c : UInt8) : ∀ l : List UInt8, (∀ x ∈ l, x ≠ c) ∨ ∃ A B, l = A ++ c :: B ∧ ∀ x ∈ A, x ≠ c
  | [] => .inl (fun x hx => by cases hx)
  | y :: l => by
    by_cases hy : y = c
    · subst hy; exact .inr ⟨[], l, rfl, fun x hx => by cases hx⟩
    · rcases cut_parts c l with h | ⟨A, B, h1, h2⟩
      · exact .inl (fun x hx => by rcases List.mem_cons.1 hx with rfl | hx; (· exact hy); exact h x hx)
      · exact .inr ⟨y :: A, B, by rw [h1]; rfl, fun x hx => by rcases List.mem_cons.1 hx with rfl | hx; (· exact hy); exact h2 x hx⟩
theorem split_parts (c : UInt8) : ∀ l : List UInt8, ∃ (A : List UInt8) (xs : List (List UInt8)), l = A ++ (xs.map ([c] ++ ·)).flatten ∧ (∀ x ∈ A, x ≠ c) ∧ ∀ y ∈ xs, ∀ x ∈ y, x ≠ c
  | [] => ⟨[], [], rfl, (fun x hx => by cases hx), fun x hx => by cases hx⟩
  | y :: l => by
    obtain ⟨A, xs, h1, h2, h3⟩ := split_parts c l
    by_cases hy : y = c
    · subst hy
      exact ⟨[], A :: xs, by rw [h1]; rfl, (fun x hx => by cases hx), fun z hz => by rcases List.mem_cons.1 hz with rfl | hz; (· exact h2); exact h3 z hz⟩
    · exact ⟨y :: A, xs, by rw [h1]; rfl, (fun x hx => by rcases List.mem_cons.1 hx with rfl | hx; (· exact hy); exact h2 x hx), h3⟩
theorem numOK_canon {x : ByteArray} (h : numOKb x = true) : x = itoaS (atoiV x) ∧ 0 ≤ atoiV x ∧ atoiV x < 10000000 := by
  cases hq : Lib.atoiAll (bl x) with
  | ok n =>
    obtain ⟨h1, h2⟩ := numOK_yes hq
    rw [h2] at h
    simp only [Bool.and_eq_true, decide_eq_true_eq] at h
    obtain ⟨⟨a, b⟩, c⟩ := h
    have e10 : (10 : Int) ^ (6 + 1) = 10000000 := by decide
    rw [h1]
    refine ⟨c.symm, a, ?_⟩
    have := (itoa_sz a 6).1 (by rw [c]; exact b)
    rwa [e10] at this
  | _ => rw [numOK_no (fun v h9 => by rw [hq] at h9; cases h9)] at h; cases h
structure NsOK (ns : List Int) : Prop where
  ne : ns ≠ []
  le : ns.length ≤ 4
  rng : ∀ d ∈ ns, 0 ≤ d ∧ d < 10000000
theorem nums_iff (s : ByteArray) : (numsOf s).2 = true ↔ NsOK (numsOf s).1 ∧ bl s = bl (txN (numsOf s).1) := by
  constructor
  · intro h
    obtain ⟨A, xs, h1, h2, h3⟩ := split_parts 47 (bl s)
    have hs := splitG_join (s := s) (sep := slash) (c := 47) (tl := []) rfl h1 h2 h3
    have hall : (splitG s slash).all numOKb = true := by
      cases hq : (splitG s slash).all numOKb with
      | true => rfl
      | false => unfold numsOf at h; rw [hq] at h; cases h
    have he : numsOf s = ((splitG s slash).map atoiV, decide ((splitG s slash).length ≤ 4)) := by unfold numsOf; rw [if_pos hall]
    rw [he] at h ⊢
    dsimp only at h ⊢
    rw [hs] at hall h ⊢
    rw [List.all_eq_true] at hall
    have h4 := of_decide_eq_true h
    refine ⟨⟨by simp, by simpa using h4, fun d hd => ?_⟩, ?_⟩
    · obtain ⟨y, hy, rfl⟩ := List.mem_map.1 hd
      exact (numOK_canon (hall y hy)).2
    · have hx : ∀ x ∈ A :: xs, bl (itoaS (atoiV ⟨x.toArray⟩)) = x := fun x hx => by
        rw [← (numOK_canon (hall _ (List.mem_map.2 ⟨x, hx, rfl⟩))).1, bl_mk]
      rw [List.map_cons, List.map_cons, txN_bl, hx A (List.mem_cons_self ..), h1, List.map_map, List.map_map]
      refine congrArg (A ++ ·) (congrArg List.flatten ?_)
      rw [List.map_map]
      refine List.map_congr_left fun x hm => ?_
      show [47] ++ x = bl slash ++ bl (itoaS (atoiV ⟨x.toArray⟩))
      rw [hx x (List.mem_cons_of_mem _ hm)]; rfl
  · rintro ⟨h, hb⟩
    have h9 := tx_nums h.ne h.le h.rng
    rw [← bl_inj hb] at h9
    rw [h9]
theorem nums_of {s : ByteArray} {ns : List Int} (h : NsOK ns) (hb : bl s = bl (txN ns)) : numsOf s = (ns, true) := by
  rw [bl_inj hb]; exact tx_nums h.ne h.le h.rng
def nsR (s : ByteArray) : Nat → Nat → List Int → List Int × Nat × Bool
  | 0, i, _ => ([], i, false)
  | f + 1, i, out => if (!(valR s i).2.2 || decide (out.length = 4)) = true then ([], i, false) else
      if (valR s i).2.1 = s.size ∨ (bl s)[(valR s i).2.1]? ≠ some 47 then (out ++ [(valR s i).1], (valR s i).2.1, true) else nsR s f ((valR s i).2.1 + 1) (out ++ [(valR s i).1])
theorem txN_cons (n : Int) {m : List Int} (h : m ≠ []) : bl (txN (n :: m)) = bl (itoaS n) ++ 47 :: bl (txN m) := by
  obtain ⟨y, ys, rfl⟩ := List.exists_cons_of_ne_nil h
  rw [txN_bl, txN_bl, List.map_cons, List.map_cons, List.flatten_cons, List.append_assoc]; rfl
theorem txN_one (n : Int) : bl (txN [n]) = bl (itoaS n) := by rw [txN_bl]; simp
theorem drop_at {l : List UInt8} {j : Nat} {c : UInt8} (h : l[j]? = some c) : l.drop j = c :: l.drop (j + 1) := by
  obtain ⟨hj, he⟩ := List.getElem?_eq_some_iff.1 h
  rw [List.drop_eq_getElem_cons hj, he]
theorem nsR_ok (s : ByteArray) : ∀ (f i : Nat) (out ns : List Int) (j : Nat), out.length ≤ 4 → nsR s f i out = (ns, j, true) → ∃ m, ns = out ++ m ∧ m ≠ [] ∧ ns.length ≤ 4 ∧ (∀ d ∈ m, 0 ≤ d ∧ d < 10000000) ∧ (bl s).drop i = bl (txN m) ++ (bl s).drop j ∧ i ≤ j ∧ j ≤ s.size
  | 0, i, out, ns, j, h4, h => by rw [nsR] at h; cases h
  | f + 1, i, out, ns, j, h4, h => by
    rw [nsR] at h
    split at h
    · cases h
    · rename_i h1
      simp only [Bool.or_eq_true, Bool.not_eq_true', decide_eq_true_eq, not_or, Bool.not_eq_false] at h1
      obtain ⟨v1, v2, v3, v4, v5⟩ := val_ok h1.1
      split at h
      · injection h with e1 e2
        injection e2 with e2 _
        subst e1 e2
        exact ⟨[(valR s i).1], rfl, by simp, by rw [List.length_append, List.length_singleton]; omega, fun d hd => by rw [List.mem_singleton.1 hd]; exact ⟨v2, v5⟩, by rw [txN_one]; exact v1, by omega, v4⟩
      · rename_i h2
        rw [not_or, Decidable.not_not] at h2
        obtain ⟨m, a1, a2, a3, a4, a5, a6, a7⟩ := nsR_ok s f _ _ ns j (by rw [List.length_append, List.length_singleton]; omega) h
        refine ⟨(valR s i).1 :: m, by rw [a1, List.append_assoc]; rfl, by simp, a3, fun d hd => ?_, ?_, by omega, a7⟩
        · rcases List.mem_cons.1 hd with rfl | hd
          · exact ⟨v2, v5⟩
          · exact a4 d hd
        · rw [txN_cons _ a2, v1, drop_at h2.2, a5]; simp
theorem dig47 {c : UInt8} (h : c = 47 ∨ c = 45) : digB8 c = false := by rcases h with rfl | rfl <;> rfl
theorem nsR_hit (s : ByteArray) : ∀ (f i : Nat) (out m : List Int) (r : List UInt8), m ≠ [] → out.length + m.length ≤ 4 → m.length ≤ f → (∀ d ∈ m, 0 ≤ d ∧ d < 10000000) → (bl s).drop i = bl (txN m) ++ r → (∀ c, r.head? = some c → digB8 c = false ∧ c ≠ 47) → nsR s f i out = (out ++ m, i + (txN m).size, true)
  | 0, i, out, m, r, h0, h4, hf, _, _, _ => by cases m with | nil => exact absurd rfl h0 | cons x xs => simp at hf
  | f + 1, i, out, m, r, h0, h4, hf, hd, hs, hr => by
    obtain ⟨x, m, rfl⟩ := List.exists_cons_of_ne_nil h0
    obtain ⟨hx0, hx1⟩ := hd x (List.mem_cons_self ..)
    rw [List.length_cons] at h4 hf
    have key : ∀ r', (bl s).drop i = bl (itoaS x) ++ r' → (∀ c, r'.head? = some c → digB8 c = false) → valR s i = (x, i + (itoaS x).size, true) := fun r' h1 h2 => val_hit h1 hx0 hx1 h2
    have hsz : ∀ r', (bl s).drop i = bl (itoaS x) ++ r' → (bl s)[i + (itoaS x).size]? = r'.head? := fun r' h1 => by
      rw [show r'.head? = ((bl s).drop (i + (itoaS x).size)).head? from by rw [drop_more h1 (bl_len _)], List.head?_drop]
    rw [nsR]
    cases m with
    | nil =>
      rw [txN_one] at hs
      have hv := key r hs (fun c hc => (hr c hc).1)
      rw [hv]
      dsimp only
      rw [if_neg (by simp; omega), if_pos, show (txN [x]).size = (itoaS x).size by rw [← bl_len, txN_one, bl_len]]
      right
      rw [hsz r hs]
      intro h; exact (hr 47 h).2 rfl
    | cons y ys =>
      rw [txN_cons x (by simp), List.append_assoc] at hs
      have hv := key _ hs (fun c hc => by rw [List.cons_append, List.head?_cons] at hc; injection hc with hc; exact dig47 (.inl hc.symm))
      have hz := hsz _ hs
      rw [List.cons_append, List.head?_cons] at hz
      rw [hv]
      dsimp only
      have hlt : i + (itoaS x).size ≠ s.size := fun h => by
        have := (List.getElem?_eq_some_iff.1 hz).1
        rw [bl_len] at this; omega
      rw [if_neg (by simp; omega), if_neg (by rw [not_or, Decidable.not_not]; exact ⟨hlt, hz⟩)]
      have hd2 := drop_more hs (bl_len _)
      rw [drop_at hz, List.cons_append] at hd2
      injection hd2 with _ hd2
      rw [nsR_hit s f _ (out ++ [x]) (y :: ys) r (by simp) (by rw [List.length_append, List.length_singleton]; omega) (by omega) (fun d h => hd d (List.mem_cons_of_mem _ h)) hd2 hr]
      rw [List.append_assoc, List.singleton_append]
      have : (txN (x :: y :: ys)).size = (itoaS x).size + 1 + (txN (y :: ys)).size := by
        rw [← bl_len, txN_cons x (by simp), List.length_append, List.length_cons, bl_len, bl_len]; omega
      rw [this, show i + (itoaS x).size + 1 + (txN (y :: ys)).size = i + ((itoaS x).size + 1 + (txN (y :: ys)).size) by omega]
def rAt (s : ByteArray) : Nat := if tkS s then 1 else 0
def rA (s : ByteArray) := nsR s 5 (rAt s) []
def rDash (s : ByteArray) : Bool := (rA s).2.2 && decide ((rA s).2.1 < s.size) && decide ((bl s)[(rA s).2.1]? = some 45)
def rB (s : ByteArray) := if rDash s then nsR s 5 ((rA s).2.1 + 1) [] else rA s
def rOK (s : ByteArray) : Bool := (rB s).2.2 && decide ((rB s).2.1 = s.size)
theorem tkR_bl (s : ByteArray) : bl (tkR s) = (bl s).drop (rAt s) := by
  unfold tkR rAt tkS Lib.trimPrefix
  split
  · rw [bl_mk]; rfl
  · rw [bl_mk]; rfl
theorem r_yes {s : ByteArray} (h : rOK s = true) : NsOK (rA s).1 ∧ NsOK (rB s).1 ∧ bl (tkA s) = bl (txN (rA s).1) ∧ bl (tkB s) = bl (txN (rB s).1) := by
  unfold rOK at h
  rw [Bool.and_eq_true, decide_eq_true_eq] at h
  obtain ⟨h1, h2⟩ := h
  have hA : (rA s).2.2 = true := by
    cases hq : (rA s).2.2 with
    | true => rfl
    | false => unfold rB rDash at h1; rw [hq] at h1; simp only [Bool.false_and, Bool.false_eq_true, if_false] at h1; rw [hq] at h1; cases h1
  obtain ⟨m, a1, a2, a3, a4, a5, a6, a7⟩ := nsR_ok s 5 (rAt s) [] (rA s).1 (rA s).2.1 (by simp) (show rA s = _ by rw [← hA])
  rw [List.nil_append] at a1
  subst a1
  have nA : NsOK (rA s).1 := ⟨a2, a3, a4⟩
  have c2 := tx_chars (c := 45) (fun d hd => (a4 d hd).1) (.inl (by decide))
  cases hd : rDash s with
  | true =>
    have hB : rB s = nsR s 5 ((rA s).2.1 + 1) [] := by unfold rB; rw [hd]; rfl
    unfold rDash at hd
    rw [Bool.and_eq_true, Bool.and_eq_true, decide_eq_true_eq, decide_eq_true_eq] at hd
    obtain ⟨m2, b1, b2, b3, b4, b5, b6, b7⟩ := nsR_ok s 5 ((rA s).2.1 + 1) [] (rB s).1 (rB s).2.1 (by simp) (show _ = _ by rw [← hB, ← h1])
    rw [List.nil_append] at b1
    subst b1
    rw [drop_at hd.2, b5, h2, ← bl_len s, List.drop_length, List.append_nil] at a5
    have hc := cutG_hit (s := tkR s) (sep := ⟨#[45]⟩) (A := bl (txN (rA s).1)) (B := bl (txN (rB s).1)) (c := 45) (tl := []) (by rw [tkR_bl, a5]; rfl) rfl c2
    refine ⟨nA, ⟨b2, b3, b4⟩, ?_, ?_⟩
    · unfold tkA; rw [hc, bl_mk]
    · unfold tkB; rw [hc]; show bl (⟨_⟩) = _; rw [bl_mk]
  | false =>
    have hB : rB s = rA s := by unfold rB; rw [hd]; rfl
    rw [hB] at h2 ⊢
    rw [h2, ← bl_len s, List.drop_length, List.append_nil] at a5
    have hc := cutG_miss (s := tkR s) (sep := ⟨#[45]⟩) (c := 45) (tl := []) rfl (by rw [tkR_bl, a5]; exact c2)
    have e : bl (tkR s) = bl (txN (rA s).1) := by rw [tkR_bl, a5]
    refine ⟨nA, nA, ?_, ?_⟩
    · unfold tkA; rw [hc]; exact e
    · unfold tkB; rw [hc]; exact e
theorem r_hit {s : ByteArray} (h1 : (numsOf (tkA s)).2 = true) (h2 : (numsOf (tkB s)).2 = true) : rOK s = true := by
  obtain ⟨nA, bA⟩ := (nums_iff _).1 h1
  obtain ⟨nB, bB⟩ := (nums_iff _).1 h2
  generalize (numsOf (tkA s)).1 = a at nA bA
  generalize (numsOf (tkB s)).1 = b at nB bB
  rcases cut_parts 45 (bl (tkR s)) with h | ⟨A, B, h, hn⟩
  · have hc := cutG_miss (s := tkR s) (sep := ⟨#[45]⟩) (c := 45) (tl := []) rfl h
    have eA : tkA s = tkR s := by unfold tkA; rw [hc]
    rw [eA, tkR_bl] at bA
    have hr := nsR_hit s 5 (rAt s) [] a [] nA.ne (by have := nA.le; simpa using this) (by have := nA.le; omega) nA.rng (by rw [List.append_nil]; exact bA) (fun c hc => by cases hc)
    rw [List.nil_append] at hr
    have hle : rAt s ≤ s.size := by
      have := congrArg List.length bA
      rw [List.length_drop, bl_len] at this
      cases Nat.lt_or_ge s.size (rAt s) with
      | inl h9 =>
        have h8 : (bl (txN a)).length = 0 := by rw [← this]; omega
        obtain ⟨x, xs, rfl⟩ := List.exists_cons_of_ne_nil nA.ne
        rw [txN_bl, List.length_append] at h8
        have := (itoa_canon (nA.rng x (List.mem_cons_self ..)).1).1
        have h7 : (bl (itoaS x)).length = 0 := by omega
        exact absurd (List.length_eq_zero_iff.1 h7) this
      | inr h9 => exact h9
    have hsz : rAt s + (txN a).size = s.size := by
      have := congrArg List.length bA
      rw [List.length_drop, bl_len, bl_len] at this; omega
    have hA : rA s = (a, s.size, true) := by unfold rA; rw [hr, hsz]
    have hB : rB s = (a, s.size, true) := by
      unfold rB rDash; rw [hA]
      simp
    unfold rOK; rw [hB]; simp
  · have hc := cutG_hit (s := tkR s) (sep := ⟨#[45]⟩) (A := A) (B := B) (c := 45) (tl := []) (by rw [h]; rfl) rfl hn
    have eA : bl (tkA s) = A := by unfold tkA; rw [hc, bl_mk]
    have eB : bl (tkB s) = B := by unfold tkB; rw [hc]; show bl (⟨_⟩) = _; rw [bl_mk]
    rw [eA] at bA
    rw [eB] at bB
    rw [tkR_bl, bA, bB] at h
    have hr := nsR_hit s 5 (rAt s) [] a (45 :: bl (txN b)) nA.ne (by have := nA.le; simpa using this) (by have := nA.le; omega) nA.rng h (fun c hc => by rw [List.head?_cons] at hc; injection hc with hc; subst hc; exact ⟨rfl, by decide⟩)
    rw [List.nil_append] at hr
    have hA : rA s = (a, rAt s + (txN a).size, true) := hr
    have hd := drop_more h (bl_len _)
    have h45 : (bl s)[rAt s + (txN a).size]? = some 45 := by
      rw [← List.head?_drop, hd]; rfl
    have hlt := (List.getElem?_eq_some_iff.1 h45).1
    rw [bl_len] at hlt
    have hd2 : (bl s).drop (rAt s + (txN a).size + 1) = bl (txN b) := by
      rw [drop_at h45] at hd; injection hd
    have hr2 := nsR_hit s 5 (rAt s + (txN a).size + 1) [] b [] nB.ne (by have := nB.le; simpa using this) (by have := nB.le; omega) nB.rng (by rw [List.append_nil]; exact hd2) (fun c hc => by cases hc)
    have hsz : rAt s + (txN a).size + 1 + (txN b).size = s.size := by
      have := congrArg List.length hd2
      rw [List.length_drop, bl_len, bl_len] at this; omega
    have hB : rB s = (b, s.size, true) := by
      unfold rB
      rw [if_pos (by unfold rDash; rw [hA]; simp [hlt, h45]), hA]
      dsimp only
      rw [hr2, hsz]; rfl
    unfold rOK; rw [hB]; simp
theorem r_iff (s : ByteArray) : rOK s = ((numsOf (tkA s)).2 && (numsOf (tkB s)).2) := by
  rw [Bool.eq_iff_iff, Bool.and_eq_true]
  constructor
  · intro h
    obtain ⟨a, b, c, d⟩ := r_yes h
    rw [nums_of a c, nums_of b d]; exact ⟨rfl, rfl⟩
  · exact fun ⟨a, b⟩ => r_hit a b
theorem r_same {s : ByteArray} (h : rOK s = true) : (numsOf (tkA s)).1 = (rA s).1 ∧ (numsOf (tkB s)).1 = (rB s).1 := by
  obtain ⟨a, b, c, d⟩ := r_yes h
  rw [nums_of a c, nums_of b d]; exact ⟨rfl, rfl⟩
def plc (es : List Ent) (fr : Int) : Nat → Nat
  | 0 => 0
  | k + 1 => if (es.getD k ⟨0, 0, false, 0⟩).to < fr then k + 1 else plc es fr k
theorem plc_le (es : List Ent) (fr : Int) : ∀ k, plc es fr k ≤ k
  | 0 => Nat.le_refl _
  | k + 1 => by rw [plc]; split; (· omega); have := plc_le es fr k; omega
theorem plc_app (A B : List Ent) (fr : Int) (hA : ∀ e ∈ A, e.to < fr) (hB : ∀ e ∈ B, ¬e.to < fr) : ∀ k, k ≤ (A ++ B).length → plc (A ++ B) fr k = min k A.length
  | 0, _ => by simp [plc]
  | k + 1, hk => by
    have ih := plc_app A B fr hA hB k (by omega)
    rw [plc]
    have hk' : k < (A ++ B).length := by omega
    rw [List.getD_eq_getElem?_getD, List.getElem?_eq_getElem hk', Option.getD_some]
    by_cases h : k < A.length
    · rw [List.getElem_append_left h, if_pos (hA _ (List.getElem_mem h))]; omega
    · rw [List.getElem_append_right (by omega), if_neg (hB _ (List.getElem_mem _)), ih]; omega
theorem plc_ins {es : List Ent} {x : Ent} (hs : srt es) (hx : entOK x) (hm : meets es x = false) : es.take (plc es x.fr es.length) ++ x :: es.drop (plc es x.fr es.length) = insE es x := by
  obtain ⟨A, B, h1, h2, h3, h4⟩ := ins_parts hs hx hm
  have hp : plc es x.fr es.length = A.length := by
    rw [h1, plc_app A B x.fr h3 (fun e he h => by
      have := h4 e he
      have := hx.le
      have := (hs.2 e (by rw [h1]; exact List.mem_append_right _ he)).le
      omega) _ (Nat.le_refl _), List.length_append]; omega
  rw [hp, h2, h1, List.take_left, List.drop_left]
end Go.PK

namespace Go.PK
open Go Go.RowKit
theorem at_some {s : ByteArray} {j : Nat} (h : j < s.size) : (bl s)[j]? = some (byteAt s j) := by
  have h2 : j < (bl s).length := by rw [bl_len]; exact h
  rw [List.getElem?_eq_getElem h2, bl_get h2]
theorem at_iff {s : ByteArray} {j : Nat} {c : UInt8} (h : j < s.size) : (bl s)[j]? = some c ↔ (byteAt s j).toNat = c.toNat := by
  rw [at_some h]
  exact ⟨fun e => by injection e with e; rw [e], fun e => congrArg some (UInt8.toNat_inj.1 e)⟩
theorem tkS_eq (s : ByteArray) : tkS s = (decide ((s.size : Int) > 0) && decide ((((byteAt s 0).toNat : Nat) : Int) = 120)) := by
  unfold tkS Lib.hasPrefix
  show [120].isPrefixOf (bl s) = _
  by_cases h : 0 < s.size
  · have h2 : 0 < (bl s).length := by rw [bl_len]; exact h
    obtain ⟨c, l, hb⟩ := List.exists_cons_of_length_pos h2
    have h3 : byteAt s 0 = c := by
      have := at_some h
      rw [hb] at this
      injection this with this; exact this.symm
    rw [decide_eq_true (show (s.size : Int) > 0 by omega), Bool.true_and, hb, List.isPrefixOf_cons_cons, h3, List.isPrefixOf_nil_left, Bool.and_true, Bool.eq_iff_iff, decide_eq_true_iff, beq_iff_eq]
    constructor
    · intro e; rw [← e]; rfl
    · intro e; exact UInt8.toNat_inj.1 (show (120 : UInt8).toNat = c.toNat from by show 120 = _; omega)
  · have h2 : bl s = [] := List.eq_nil_of_length_eq_zero (by rw [bl_len]; omega)
    rw [decide_eq_false (show ¬(s.size : Int) > 0 by omega), Bool.false_and, h2]; rfl
theorem rDash_eq {s : ByteArray} : rDash s = ((rA s).2.2 && decide ((((rA s).2.1 : Nat) : Int) < (s.size : Nat)) && decide ((((byteAt s (rA s).2.1).toNat : Nat) : Int) = 45)) := by
  unfold rDash
  by_cases h : (rA s).2.1 < s.size
  · rw [decide_eq_true h, decide_eq_true (show (((rA s).2.1 : Nat) : Int) < (s.size : Nat) by omega), Bool.and_true]
    congr 1
    rw [Bool.eq_iff_iff, decide_eq_true_iff, decide_eq_true_iff, at_iff h]
    show _ = 45 ↔ _
    omega
  · rw [decide_eq_false h, decide_eq_false (show ¬(((rA s).2.1 : Nat) : Int) < (s.size : Nat) by omega)]; simp
theorem rOK_eq {s : ByteArray} : rOK s = !(!(rB s).2.2 || decide ((((rB s).2.1 : Nat) : Int) ≠ (s.size : Nat))) := by
  unfold rOK
  rw [Bool.not_or, Bool.not_not]
  congr 1
  by_cases h : (rB s).2.1 = s.size
  · rw [decide_eq_true h, decide_eq_false (by omega)]; rfl
  · rw [decide_eq_false h, decide_eq_true (by omega)]; rfl
section
variable {p : Pat} {es : List Ent} {text : ByteArray} {day : Int}
theorem rT_form (h : rOK text = false) : takeQ p es text day = (es, 11) := by
  unfold takeQ
  rw [r_iff] at h
  rw [if_pos]
  revert h
  cases (numsOf (tkA text)).2 <;> cases (numsOf (tkB text)).2 <;> simp
theorem r_neg (h : rOK text = true) : ¬((!(numsOf (tkA text)).2 || !(numsOf (tkB text)).2) = true) := by
  rw [r_iff] at h
  revert h
  cases (numsOf (tkA text)).2 <;> cases (numsOf (tkB text)).2 <;> simp
theorem rT_arg (h : rOK text = true) (hd : ¬okDay day) : takeQ p es text day = (es, 1) := by
  unfold takeQ
  rw [if_neg (r_neg h), if_neg hd]
theorem rT_eq (h : rOK text = true) (hd : okDay day) : takeQ p es text day = takeP p es (tkS text) (rA text).1 (rB text).1 day := by
  unfold takeQ
  rw [if_neg (r_neg h), if_pos hd, (r_same h).1, (r_same h).2]
theorem rT_none (h : rOK text = true) (hd : okDay day) (hn : (numP p (rA text).1).isSome = false ∨ (numP p (rB text).1).isSome = false ∨ (numP p (rB text).1).getD 0 < (numP p (rA text).1).getD 0 ∨ 100 < (numP p (rB text).1).getD 0 - (numP p (rA text).1).getD 0 + 1) : takeQ p es text day = (es, 32) := by
  rw [rT_eq h hd]
  rcases h1 : (numP p (rA text).1).isSome with _ | _
  · exact takeP_none (.inl h1)
  rcases h2 : (numP p (rB text).1).isSome with _ | _
  · exact takeP_none (.inr h2)
  rw [takeP_some h1 h2, if_pos]
  rcases hn with hn | hn | hn | hn
  · rw [h1] at hn; cases hn
  · rw [h2] at hn; cases hn
  · omega
  · omega
theorem rT_some (h : rOK text = true) (hd : okDay day) (h1 : (numP p (rA text).1).isSome = true) (h2 : (numP p (rB text).1).isSome = true) (h3 : ¬(numP p (rB text).1).getD 0 < (numP p (rA text).1).getD 0) (h4 : ¬100 < (numP p (rB text).1).getD 0 - (numP p (rA text).1).getD 0 + 1) :
    entOK ⟨(numP p (rA text).1).getD 0, (numP p (rB text).1).getD 0, tkS text, day⟩ ∧ takeQ p es text day = if meets es ⟨(numP p (rA text).1).getD 0, (numP p (rB text).1).getD 0, tkS text, day⟩ = true then (es, 22) else (insE es ⟨(numP p (rA text).1).getD 0, (numP p (rB text).1).getD 0, tkS text, day⟩, 0) := by
  have r1 := numP_rng p (rA text).1
  have r2 := numP_rng p (rB text).1
  refine ⟨⟨r1.1, by dsimp only; omega, r2.2, by dsimp only; omega, hd⟩, ?_⟩
  rw [rT_eq h hd, takeP_some h1 h2, if_neg (by omega)]; rfl
end
theorem meets_iff {es : List Ent} {x : Ent} : meets es x = false ↔ ∀ k (h : k < es.length), ¬(x.fr ≤ es[k].to ∧ es[k].fr ≤ x.to) := by
  constructor
  · intro h k hk hc
    have := meets_no h _ (List.getElem_mem hk)
    omega
  · intro h
    cases hm : meets es x with
    | false => rfl
    | true =>
      unfold meets at hm
      rw [List.any_eq_true] at hm
      obtain ⟨y, hy, hc⟩ := hm
      obtain ⟨k, hk, rfl⟩ := List.getElem_of_mem hy
      rw [Bool.and_eq_true, decide_eq_true_eq, decide_eq_true_eq] at hc
      exact absurd hc (h k hk)
theorem plc_yes {es : List Ent} {fr : Int} {k : Nat} (hk : k < es.length) (h : es[k].to < fr) : plc es fr (k + 1) = k + 1 := by
  rw [plc, List.getD_eq_getElem?_getD, List.getElem?_eq_getElem hk, Option.getD_some, if_pos h]
theorem plc_no {es : List Ent} {fr : Int} {k : Nat} (hk : k < es.length) (h : ¬es[k].to < fr) : plc es fr (k + 1) = plc es fr k := by
  rw [plc, List.getD_eq_getElem?_getD, List.getElem?_eq_getElem hk, Option.getD_some, if_neg h]
theorem entsC_at {l : List Ent} {k : Nat} (h : k < l.length) {j : Nat} (hj : j < (entC l[k]).length) : (entsC l)[k * 4 + j]? = some (entC l[k])[j] := by
  have e : (entsC l)[k * 4 + j]? = ((entsC l).drop (k * 4))[j]? := by rw [List.getElem?_drop]
  rw [e, entsC_drop, List.drop_eq_getElem_cons h]
  show (entC l[k] ++ entsC (l.drop (k + 1)))[j]? = _
  rw [List.getElem?_append_left hj, List.getElem?_eq_getElem hj]
theorem rowE_at {n b c k : Nat} {cs : List Value} {gs : List Ent} (h : rowOK 4 (some (b, cs, c)) n (entsC gs)) (hn : gs.length = n) (hk : k < gs.length) {j : Nat} (hj : j < (entC gs[k]).length) : cs[0 + k * 4 + j]? = some (entC gs[k])[j] := by
  obtain ⟨h1, h2, h3, h4, h5⟩ := h
  dsimp only at h2 h3 h4 h5
  have hj6 : j < 4 := hj
  rw [Nat.zero_add, ← entsC_at hk hj, ← h5, List.getElem?_take, if_pos (by omega)]
theorem rowOK.cap {size : Nat} {R : RowS} {n : Nat} {xs : List Value} (h : rowOK size R n xs) : n ≤ rowC R := by
  cases R with
  | none => have := h.2; simp only at this; omega
  | some r => exact h.2.1
theorem row_part {e : TypeId} {R : RowS} {es : List Ent} {own : List (Nat × Obj)} {ro : List Snap} {w : World} (hR : rowOK 4 R es.length (entsC es)) (hm : Mem w own ro) (hin : ∀ p ∈ rowO e R, p ∈ own) {i j : Nat} {a : Addr} (ha : rowA R = some a) {u : Value} (hu : (entsC (es.drop i))[j]? = some u) :
    w.cell? ((a.add (i * 4)).add j) = some u := by
  obtain _ | ⟨b, cs, c⟩ := R
  · cases ha
  · cases ha
    obtain ⟨h1, h2, h3, h4, h5⟩ := hR
    dsimp only at h2 h3 h4 h5
    rw [mk_add, mk_add, Nat.zero_add]
    rw [hm.cell_own (hin (b, .cells cs.toArray e (0, 0)) (.head _)) (i * 4 + j), List.getElem?_toArray]
    have hj := (List.getElem?_eq_some_iff.1 hu).1
    rw [entsC_len, List.length_drop] at hj
    rw [← entsC_drop, List.getElem?_drop, ← h5, List.getElem?_take, if_pos (by omega)] at hu
    exact hu
theorem row_head {e : TypeId} {R : RowS} {es : List Ent} {own : List (Nat × Obj)} {ro : List Snap} {w : World} (hR : rowOK 4 R es.length (entsC es)) (hm : Mem w own ro) (hin : ∀ p ∈ rowO e R, p ∈ own) {m j : Nat} {a : Addr} (ha : rowA R = some a) {u : Value} (hu : (entsC (es.take m))[j]? = some u) :
    w.cell? (a.add j) = some u := by
  have hj := (List.getElem?_eq_some_iff.1 hu).1
  rw [entsC_len] at hj
  rw [← entsC_take, List.getElem?_take] at hu
  split at hu
  · have := row_part (i := 0) hR hm hin ha (j := j) (by rw [List.drop_zero]; exact hu)
    obtain ⟨b, o, sp⟩ := a
    simpa [Addr.add] using this
  · cases hu
theorem row_tail {e : TypeId} {R : RowS} {es : List Ent} {own : List (Nat × Obj)} {ro : List Snap} {w : World} (hR : rowOK 4 R es.length (entsC es)) (hm : Mem w own ro) (hin : ∀ p ∈ rowO e R, p ∈ own) {i j : Nat} {a : Addr} (hi : i ≤ es.length) (ha : (if rowC R = i then rowA R else (rowA R).map (fun a => a.add (i * 4))) = some a) {u : Value} (hu : (entsC (es.drop i))[j]? = some u) :
    w.cell? (a.add j) = some u := by
  have hj := (List.getElem?_eq_some_iff.1 hu).1
  rw [entsC_len, List.length_drop] at hj
  have hc := hR.cap
  rw [if_neg (by omega), Option.map_eq_some_iff] at ha
  obtain ⟨a0, h1, rfl⟩ := ha
  exact row_part hR hm hin h1 hu
theorem row_none {R : RowS} {es : List Ent} (hR : rowOK 4 R es.length (entsC es)) (h : rowA R = none) : es.length = 0 := by
  obtain _ | ⟨b, cs, c⟩ := R
  · exact hR.2
  · cases h
end Go.PK

namespace Go.PK
open Go Go.RowKit
def thereP (es : List Ent) (k : Int) : Bool := es.any fun x => decide (x.fr ≤ k) && decide (k ≤ x.to)
def missR (p : Pat) (es : List Ent) (d last day : Int) : Nat → Int → Nat → List Iss
  | 0, _, _ => []
  | f + 1, k, n => if k < 100000 ∧ n < 1000 then
      if p.first + k * p.days + (if k > last then d else 0) > day ∧ k > last then [] else
      if thereP es k = false ∧ p.first + k * p.days + (if k > last then d else 0) ≤ day then ⟨numsP p k, p.first + k * p.days + (if k > last then d else 0)⟩ :: missR p es d last day f (k + 1) (n + 1) else missR p es d last day f (k + 1) n
    else []
section
variable {p : Pat} {es : List Ent} {d last day : Int}
theorem missR_late : ∀ (f : Nat) (k : Int) (n : Nat), (∀ j, k ≤ j → p.first + j * p.days + (if j > last then d else 0) > day) → missR p es d last day f k n = []
  | 0, _, _, _ => rfl
  | f + 1, k, n, h => by
    have h1 := h k (Int.le_refl _)
    rw [missR]
    generalize (if k > last then d else 0) = E at h1 ⊢
    split
    · split
      · rfl
      · rw [if_neg (by omega)]
        exact missR_late f (k + 1) n (fun j hj => h j (by omega))
    · rfl
theorem missF_late (m : Int) (h : ∀ j, m ≤ j → p.first + j * p.days + (if j > last then d else 0) > day) : ∀ (g : Nat) (k : Int) (l : List Ent) (n : Nat), m ≤ k → (∀ e ∈ l, m ≤ e.to + 1) → missF p d last day g k l n = []
  | 0, _, _, _, _, _ => rfl
  | g + 1, k, l, n, hm, hl => by
    have h1 := h k hm
    by_cases hc : k < 100000 ∧ n < 1000
    · cases l with
      | nil => rw [missF_nil hc, if_pos h1]
      | cons e r =>
        rw [missF_cons hc]
        by_cases hk : k ≥ e.fr
        · rw [if_pos hk]
          exact missF_late m h g _ r n (hl e (List.mem_cons_self ..)) (fun x hx => hl x (List.mem_cons_of_mem _ hx))
        · rw [if_neg hk, if_pos h1]
    · unfold missF; rw [if_neg hc]
theorem exp_mono (hd : 1 ≤ p.days) (h0 : 0 ≤ d) {k j : Int} (h : k ≤ j) : p.first + k * p.days + (if k > last then d else 0) ≤ p.first + j * p.days + (if j > last then d else 0) := by
  have h1 : k * p.days ≤ j * p.days := Int.mul_le_mul_of_nonneg_right h (by omega)
  split <;> split <;> omega
theorem miss_same (hd : 1 ≤ p.days) (h0 : 0 ≤ d) : ∀ (f : Nat) (k : Int) (l : List Ent) (n g : Nat), srt l → (∀ e ∈ l, k ≤ e.to) → (∀ j, k ≤ j → thereP es j = thereP l j) → (100000 - k).toNat < f → missMu k l ≤ g → missR p es d last day f k n = missF p d last day g k l n
  | 0, k, l, n, g, _, _, _, hf, _ => by omega
  | f + 1, k, l, n, 0, _, _, _, _, hg => by unfold missMu at hg; omega
  | f + 1, k, l, n, g + 1, hs, hto, ht, hf, hg => by
    rw [missR]
    by_cases hc : k < 100000 ∧ n < 1000
    · rw [if_pos hc]
      cases l with
      | nil =>
        rw [missF_nil hc]
        have e0 : thereP es k = false := by rw [ht k (Int.le_refl _)]; rfl
        by_cases hx : p.first + k * p.days + (if k > last then d else 0) > day
        · rw [if_pos hx]
          by_cases hb : k > last
          · rw [if_pos ⟨hx, hb⟩]
          · rw [if_neg (fun h => hb h.2), if_neg (fun h => absurd h.2 (Int.not_le.2 hx))]
            exact missR_late f _ n (fun j hj => Int.lt_of_lt_of_le hx (exp_mono (p := p) (d := d) (last := last) hd h0 (show k ≤ j by omega)))
        · rw [if_neg hx, if_neg (fun h => hx h.1), if_pos ⟨e0, Int.not_lt.1 hx⟩]
          rw [miss_same hd h0 f (k + 1) [] (n + 1) g hs (fun e he => by cases he) (fun j hj => ht j (by omega)) (by omega) (by unfold missMu at hg ⊢; omega)]
      | cons e r =>
        rw [missF_cons hc]
        have hp := List.pairwise_cons.1 hs.1
        have hsr : srt r := ⟨hp.2, fun x hx => hs.2 x (List.mem_cons_of_mem _ hx)⟩
        have hle := (hs.2 e (List.mem_cons_self ..)).le
        have hket := hto e (List.mem_cons_self ..)
        have hrr : ∀ x ∈ r, e.to < x.fr ∧ x.fr ≤ x.to := fun x hx => ⟨hp.1 x hx, (hsr.2 x hx).le⟩
        by_cases hk : k ≥ e.fr
        · have e1 : thereP es k = true := by
            rw [ht k (Int.le_refl _)]
            show (decide (e.fr ≤ k) && decide (k ≤ e.to) || _) = true
            rw [decide_eq_true (by omega : e.fr ≤ k), decide_eq_true (by omega : k ≤ e.to)]; rfl
          rw [if_pos hk]
          by_cases hx : p.first + k * p.days + (if k > last then d else 0) > day ∧ k > last
          · rw [if_pos hx]
            exact (missF_late k (fun j hj => Int.lt_of_lt_of_le hx.1 (exp_mono (p := p) (d := d) (last := last) hd h0 hj)) g _ r n (by omega) (fun x hx => by have := hrr x hx; omega)).symm
          · rw [if_neg hx, if_neg (by rw [e1]; simp)]
            by_cases hke : k = e.to
            · rw [miss_same hd h0 f (k + 1) r n g hsr (fun x hx => by have := hrr x hx; omega) (fun j hj => by
                rw [ht j (by omega)]
                show (decide (e.fr ≤ j) && decide (j ≤ e.to) || _) = _
                rw [decide_eq_false (by omega : ¬j ≤ e.to), Bool.and_false, Bool.false_or]; rfl) (by omega) (by unfold missMu at hg ⊢; rw [List.length_cons, Nat.add_mul] at hg; omega), hke]
            · rw [miss_same hd h0 f (k + 1) (e :: r) n (g + 1) hs (fun x hx => by
                rcases List.mem_cons.1 hx with rfl | hx
                · omega
                · have := hrr x hx; omega) (fun j hj => ht j (by omega)) (by omega) (by unfold missMu at hg ⊢; omega)]
              have hoth := (hs.2 e (List.mem_cons_self ..)).2.2.1
              rw [missF_cons ⟨by omega, hc.2⟩, if_pos (by omega)]
        · have e1 : thereP es k = false := by
            rw [ht k (Int.le_refl _)]
            unfold thereP
            rw [List.any_eq_false]
            intro x hx
            rw [Bool.and_eq_true, decide_eq_true_eq, decide_eq_true_eq]
            rcases List.mem_cons.1 hx with rfl | hx
            · omega
            · have := hrr x hx; omega
          rw [if_neg hk]
          by_cases hx : p.first + k * p.days + (if k > last then d else 0) > day
          · rw [if_pos hx]
            by_cases hb : k > last
            · rw [if_pos ⟨hx, hb⟩]
            · rw [if_neg (fun h => hb h.2), if_neg (fun h => absurd h.2 (Int.not_le.2 hx))]
              exact missR_late f _ n (fun j hj => Int.lt_of_lt_of_le hx (exp_mono (p := p) (d := d) (last := last) hd h0 (show k ≤ j by omega)))
          · rw [if_neg hx, if_neg (fun h => hx h.1), if_pos ⟨e1, Int.not_lt.1 hx⟩]
            rw [miss_same hd h0 f (k + 1) (e :: r) (n + 1) g hs (fun x hx => by
                rcases List.mem_cons.1 hx with rfl | hx
                · omega
                · have := hrr x hx; omega) (fun j hj => ht j (by omega)) (by omega) (by unfold missMu at hg ⊢; omega)]
    · rw [if_neg hc]; unfold missF; rw [if_neg hc]
end
theorem thereP_take {es : List Ent} {k : Int} (h : ∀ j (hj : j < es.length), ¬(es[j].fr ≤ k ∧ k ≤ es[j].to)) : thereP es k = false := by
  unfold thereP
  rw [List.any_eq_false]
  intro x hx
  obtain ⟨j, hj, rfl⟩ := List.getElem_of_mem hx
  rw [Bool.and_eq_true, decide_eq_true_eq, decide_eq_true_eq]
  exact h j hj
theorem thereP_yes {es : List Ent} {k : Int} {j : Nat} (hj : j < es.length) (h : es[j].fr ≤ k ∧ k ≤ es[j].to) : thereP es k = true := by
  unfold thereP
  rw [List.any_eq_true]
  exact ⟨es[j], List.getElem_mem hj, by rw [decide_eq_true h.1, decide_eq_true h.2]; rfl⟩
end Go.PK

namespace Go.PK
open Go Go.RowKit
def gV : List UInt8 → Nat
  | [] => 0
  | b :: r => b.toNat % 128 + 128 * gV r
theorem gV_app : ∀ (a b : List UInt8), gV (a ++ b) = gV a + 128 ^ a.length * gV b
  | [], b => by simp [gV]
  | x :: a, b => by
    show x.toNat % 128 + 128 * gV (a ++ b) = x.toNat % 128 + 128 * gV a + _
    rw [gV_app a b, List.length_cons, Nat.pow_succ, Nat.mul_add, Nat.mul_comm (128 ^ a.length) 128, Nat.mul_assoc]; omega
theorem gV_lt : ∀ l : List UInt8, gV l < 128 ^ l.length
  | [] => by simp [gV]
  | x :: l => by
    have ih := gV_lt l
    show x.toNat % 128 + 128 * gV l < _
    rw [List.length_cons, Nat.pow_succ]
    omega
theorem gV_numG : ∀ n : Nat, gV (numG n) = n := fun n => by
  induction n using Nat.strongRecOn with
  | ind n ih =>
    by_cases h : n < 128
    · rw [numG_small h]
      show (UInt8.ofNat n).toNat % 128 + 128 * 0 = n
      rw [UInt8.toNat_ofNat']
      omega
    · rw [numG_big h]
      show (UInt8.ofNat (n % 128 + 128)).toNat % 128 + 128 * gV (numG (n / 128)) = n
      rw [ih (n / 128) (by omega), UInt8.toNat_ofNat']
      omega
theorem gV_last {a : List UInt8} {b : UInt8} (h : b.toNat ≠ 0) (h2 : b.toNat < 128) : 0 < gV (a ++ [b]) := by
  rw [gV_app]
  have : gV [b] = b.toNat % 128 + 128 * 0 := rfl
  have hp : 0 < 128 ^ a.length := Nat.pow_pos (by decide)
  have h3 : 0 < gV [b] := by omega
  have := Nat.mul_pos hp h3
  omega
theorem numG_gV : ∀ (a : List UInt8) (b : UInt8), (∀ x ∈ a, 128 ≤ x.toNat) → b.toNat < 128 → (a ≠ [] → b.toNat ≠ 0) → numG (gV (a ++ [b])) = a ++ [b]
  | [], b, _, hb, _ => by
    have e : gV ([] ++ [b]) = b.toNat := by show b.toNat % 128 + 128 * 0 = _; omega
    rw [e, numG_small hb, UInt8.ofNat_toNat]; rfl
  | x :: a, b, ha, hb, h0 => by
    have hb0 := h0 (by simp)
    have hp := gV_last (a := a) hb0 hb
    have hx := ha x (List.mem_cons_self ..)
    have e : gV (x :: a ++ [b]) = x.toNat % 128 + 128 * gV (a ++ [b]) := rfl
    rw [e, numG_big (by omega)]
    have e1 : (x.toNat % 128 + 128 * gV (a ++ [b])) / 128 = gV (a ++ [b]) := by omega
    have e2 : (x.toNat % 128 + 128 * gV (a ++ [b])) % 128 + 128 = x.toNat := by have := x.toNat_lt; omega
    rw [e1, e2, numG_gV a b (fun y hy => ha y (List.mem_cons_of_mem _ hy)) hb (fun _ => hb0), UInt8.ofNat_toNat]; rfl
theorem numG_last : ∀ (n : Nat) (a : List UInt8) (b : UInt8), numG n = a ++ [b] → a ≠ [] → b.toNat ≠ 0 := fun n => by
  induction n using Nat.strongRecOn with
  | ind n ih =>
    intro a b h ha
    by_cases hn : n < 128
    · rw [numG_small hn] at h
      cases a with
      | nil => exact absurd rfl ha
      | cons x a => have := congrArg List.length h; simp at this
    · rw [numG_big hn] at h
      cases a with
      | nil => exact absurd rfl ha
      | cons x a =>
        rw [List.cons_append] at h
        injection h with h1 h2
        cases a with
        | nil =>
          by_cases hm : n / 128 < 128
          · rw [numG_small hm, List.nil_append] at h2
            injection h2 with h2
            rw [← h2, UInt8.toNat_ofNat']
            omega
          · rw [numG_big hm] at h2
            have := congrArg List.length h2
            have hp := numG_pos (n / 128 / 128)
            rw [List.length_cons, List.nil_append, List.length_singleton] at this; omega
        | cons y a => exact ih (n / 128) (by omega) (y :: a) b h2 (by simp)
theorem numG_hi : ∀ (n : Nat) (a : List UInt8) (b : UInt8), numG n = a ++ [b] → (∀ x ∈ a, 128 ≤ x.toNat) ∧ b.toNat < 128 := fun n => by
  induction n using Nat.strongRecOn with
  | ind n ih =>
    intro a b h
    by_cases hn : n < 128
    · rw [numG_small hn] at h
      cases a with
      | nil =>
        rw [List.nil_append] at h
        injection h with h _
        subst h
        rw [UInt8.toNat_ofNat']
        exact ⟨(fun x hx => by cases hx), by omega⟩
      | cons x a => have := congrArg List.length h; simp at this
    · rw [numG_big hn] at h
      cases a with
      | nil => have := congrArg List.length h; have hp := numG_pos (n / 128); rw [List.length_cons, List.nil_append, List.length_singleton] at this; omega
      | cons x a =>
        rw [List.cons_append] at h
        injection h with h1 h2
        obtain ⟨g1, g2⟩ := ih (n / 128) (by omega) a b h2
        refine ⟨fun y hy => ?_, g2⟩
        rcases List.mem_cons.1 hy with rfl | hy
        · rw [← h1, UInt8.toNat_ofNat']; omega
        · exact g1 y hy
def lowI (l : List UInt8) : Nat := (l.take 10).findIdx fun b => decide (b.toNat < 128)
def rnL (l : List UInt8) : Nat × Nat × Int :=
  if lowI l < (l.take 10).length then
    if (0 < lowI l ∧ (l.getD (lowI l) 0).toNat = 0) ∨ (lowI l = 9 ∧ 1 < (l.getD (lowI l) 0).toNat) then (0, 0, 11) else (gV (l.take (lowI l + 1)), lowI l + 1, 0)
  else if l.length < 10 then (0, 0, 10) else (0, 0, 11)
theorem rn_stop {l : List UInt8} {i : Nat} (h1 : i < l.length) (h2 : i < 10) (h : ∀ j (hj : j < l.length), j < i → 128 ≤ l[j].toNat) (hn : l[i].toNat < 128) :
    rnL l = if (0 < i ∧ l[i].toNat = 0) ∨ (i = 9 ∧ 1 < l[i].toNat) then (0, 0, 11) else (gV (l.take (i + 1)), i + 1, 0) := by
  have hi : i < (l.take 10).length := by rw [List.length_take]; omega
  have e : lowI l = i := by
    unfold lowI
    rw [List.findIdx_eq hi]
    refine ⟨by rw [List.getElem_take]; exact decide_eq_true hn, fun j hj => ?_⟩
    rw [List.getElem_take]
    exact decide_eq_false (by have := h j (by omega) hj; omega)
  unfold rnL
  rw [e, if_pos hi, List.getD_eq_getElem?_getD, List.getElem?_eq_getElem h1, Option.getD_some]
theorem rn_end {l : List UInt8} (h : ∀ j (hj : j < l.length), j < 10 → 128 ≤ l[j].toNat) : rnL l = if l.length < 10 then (0, 0, 10) else (0, 0, 11) := by
  have e : ¬lowI l < (l.take 10).length := by
    have : lowI l = (l.take 10).length := by
      unfold lowI
      rw [List.findIdx_eq_length]
      intro x hx
      obtain ⟨j, hj, rfl⟩ := List.getElem_of_mem hx
      rw [List.length_take] at hj
      rw [List.getElem_take]
      exact decide_eq_false (by have := h j (by omega) (by omega); omega)
    omega
  unfold rnL
  rw [if_neg e]
theorem rn_case (l : List UInt8) : (∃ i, ∃ (h1 : i < l.length), i < 10 ∧ (∀ j (hj : j < l.length), j < i → 128 ≤ l[j].toNat) ∧ l[i].toNat < 128) ∨ ∀ j (hj : j < l.length), j < 10 → 128 ≤ l[j].toNat := by
  by_cases h : lowI l < (l.take 10).length
  · left
    have h0 := h
    rw [List.length_take] at h0
    refine ⟨lowI l, by omega, by omega, fun j hj hjk => ?_, ?_⟩
    · have := List.not_of_lt_findIdx (xs := l.take 10) (p := fun b : UInt8 => decide (b.toNat < 128)) (i := j) hjk
      rw [List.getElem_take] at this
      simp at this; omega
    · have := List.findIdx_getElem (xs := l.take 10) (p := fun b : UInt8 => decide (b.toNat < 128)) (w := h)
      have e : (l.take 10)[lowI l]'h = l[lowI l]'(by omega) := List.getElem_take
      rw [← e]
      exact of_decide_eq_true this
  · right
    intro j hj h10
    have hlt : j < lowI l := by have : (l.take 10).length ≤ lowI l := by omega
                                rw [List.length_take] at this; omega
    have := List.not_of_lt_findIdx (xs := l.take 10) (p := fun b : UInt8 => decide (b.toNat < 128)) (i := j) hlt
    rw [List.getElem_take] at this
    simp at this; omega
theorem take_last {l : List UInt8} {i : Nat} (h1 : i < l.length) : l.take (i + 1) = l.take i ++ [l[i]] := (List.take_append_getElem h1).symm
theorem hi_take {l : List UInt8} {i : Nat} (h : ∀ j (hj : j < l.length), j < i → 128 ≤ l[j].toNat) : ∀ x ∈ l.take i, 128 ≤ x.toNat := fun x hx => by
  obtain ⟨j, hj, rfl⟩ := List.getElem_of_mem hx
  rw [List.length_take] at hj
  rw [List.getElem_take]
  exact h j (by omega) (by omega)
theorem p128_9 : 128 ^ 9 = 9223372036854775808 := by decide
theorem gV_small {l : List UInt8} {i : Nat} (h1 : i < l.length) (h2 : i < 10) (hn : l[i].toNat < 128) (hb : ¬(i = 9 ∧ 1 < l[i].toNat)) : gV (l.take (i + 1)) < 18446744073709551616 := by
  rw [take_last h1, gV_app]
  have h3 := gV_lt (l.take i)
  have h4 : (l.take i).length = i := by rw [List.length_take]; omega
  rw [h4] at h3 ⊢
  have e : gV [l[i]] = l[i].toNat := by show l[i].toNat % 128 + 128 * 0 = _; omega
  rw [e]
  by_cases h9 : i = 9
  · subst h9
    rw [p128_9] at h3 ⊢
    omega
  · have h5 : 128 ^ (i + 1) ≤ 128 ^ 9 := Nat.pow_le_pow_right (by decide) (by omega)
    rw [p128_9, Nat.pow_succ] at h5
    have h6 : 128 ^ i * l[i].toNat ≤ 128 ^ i * 127 := Nat.mul_le_mul_left _ (by omega)
    omega
theorem rn_ok {l : List UInt8} (h : (rnL l).2.2 = 0) : l.take (rnL l).2.1 = numG (rnL l).1 ∧ 1 ≤ (rnL l).2.1 ∧ (rnL l).2.1 ≤ l.length ∧ (rnL l).1 < 18446744073709551616 := by
  rcases rn_case l with ⟨i, h1, h2, h3, h4⟩ | h1
  · have e := rn_stop h1 h2 h3 h4
    rw [e] at h ⊢
    split at h
    · exact absurd h (by decide)
    · rename_i hc
      rw [if_neg hc]
      dsimp only
      rw [not_or] at hc
      refine ⟨?_, by omega, by omega, gV_small h1 h2 h4 hc.2⟩
      rw [take_last h1, numG_gV _ _ (hi_take h3) h4 (fun h0 h9 => hc.1 ⟨?_, h9⟩)]
      cases i with
      | zero => simp at h0
      | succ i => omega
  · rw [rn_end h1] at h
    split at h <;> exact absurd h (by decide)
theorem rn_err (l : List UInt8) : (rnL l).2.2 = 0 ∨ ((rnL l).1 = 0 ∧ (rnL l).2.1 = 0 ∧ ((rnL l).2.2 = 10 ∨ (rnL l).2.2 = 11)) := by
  unfold rnL
  split
  · split
    · exact .inr ⟨rfl, rfl, .inr rfl⟩
    · exact .inl rfl
  · split
    · exact .inr ⟨rfl, rfl, .inl rfl⟩
    · exact .inr ⟨rfl, rfl, .inr rfl⟩
theorem rn_hit {n : Nat} (hn : n < 18446744073709551616) (r : List UInt8) : rnL (numG n ++ r) = (n, (numG n).length, 0) := by
  have h10 := numG_ten hn
  obtain ⟨a, b, hab⟩ : ∃ a b, numG n = a ++ [b] := by
    have := numG_pos n
    have h0 : numG n ≠ [] := fun h => by rw [h] at this; simp at this
    exact ⟨(numG n).dropLast, (numG n).getLast h0, (List.dropLast_concat_getLast h0).symm⟩
  obtain ⟨g1, g2⟩ := numG_hi n a b hab
  have hlen : (numG n).length = a.length + 1 := by rw [hab]; simp
  have hil : a.length < (numG n ++ r).length := by rw [List.length_append]; omega
  have hget : (numG n ++ r)[a.length] = b := by simp [hab]
  have e := rn_stop (l := numG n ++ r) (i := a.length) hil (by omega) (fun j hj hja => by
    have : (numG n ++ r)[j] = a[j] := by simp [hab, hja]
    rw [this]; exact g1 _ (List.getElem_mem hja)) (by rw [hget]; exact g2)
  have htk : (numG n ++ r).take (a.length + 1) = numG n := by rw [← hlen, List.take_left]
  rw [e, hget, htk, gV_numG, hlen, if_neg]
  rw [not_or]
  refine ⟨fun h => numG_last n a b hab (fun h0 => by rw [h0] at h; simp at h) h.2, fun h => ?_⟩
  have h1 : n = gV (a ++ [b]) := by rw [← hab, gV_numG]
  rw [gV_app, h.1, p128_9] at h1
  have e2 : gV [b] = b.toNat := by show b.toNat % 128 + 128 * 0 = _; omega
  rw [e2] at h1
  omega
theorem or_add {a c s : Nat} (ha : a < 2 ^ s) (h : a + c * 2 ^ s < 18446744073709551616) : orK .u64 (a : Nat) ((c * 2 ^ s : Nat) : Int) = ((a + c * 2 ^ s : Nat) : Int) := by
  have hb : (BitVec.ofInt 64 (a : Int) ||| BitVec.ofInt 64 ((c * 2 ^ s : Nat) : Int)).toNat = a + c * 2 ^ s := by
    rw [BitVec.toNat_or, BitVec.toNat_ofInt, BitVec.toNat_ofInt]
    have e1 : ((a : Int) % ((2 ^ 64 : Nat) : Int)).toNat = a := by
      rw [show ((2 ^ 64 : Nat) : Int) = 18446744073709551616 by decide]; omega
    have e2 : (((c * 2 ^ s : Nat) : Int) % ((2 ^ 64 : Nat) : Int)).toNat = c * 2 ^ s := by
      rw [show ((2 ^ 64 : Nat) : Int) = 18446744073709551616 by decide]; omega
    rw [e1, e2, Nat.or_comm, ← Nat.shiftLeft_eq, ← Nat.shiftLeft_add_eq_or_of_lt ha, Nat.add_comm]
  unfold orK
  show IntKind.u64.wrap ((BitVec.ofInt 64 (a : Int) ||| BitVec.ofInt 64 ((c * 2 ^ s : Nat) : Int)).toNat : Nat) = _
  rw [hb, u64_wrap ⟨by omega, by omega⟩]
end Go.PK
