/- Of the proofs of YtaniaihoodgmpaaGreatDoor: PkSer5 PkRef4 PkNum PkInv PkInv2 PkPay PkPayT PkSer6 PkTree PkTree2 PkTree3 PkSer7 PkSer8 PkSer9 PkSerW PkSan PkTurnG PkEdi7 PkText PkPayR PkPayS PkPayL PkFull PkFull2 PkBent2 PkIss PkLaw25 PkSerR PkSerT PkSerU PkSerV PkLibs PkCopy PkRound PkClm PkIter PkCod PkTake PkTak2 PkTak3 PkMis PkUnc PkUnc2 PkUnc3 PkUnc4 PkIter2 PkIter3 PkOpn PkInvS PkSerD PkClaim PkBulk PkOrdT PkBulk2 PkZ, put together. -/
import Derived.Test.YtaniaihoodgmpaaGreatDoorM1
import Derived.Lib.AtoiAll
import Derived.Lib.ItoaNum
import Derived.Lib.SplitLaws
import Derived.Lib.IndexBytes
import Derived.Lib.IndexMore
import Derived.Lib.AtoiAllCases
import Derived.Laws.ResultCell
import Derived.ArgAppend
import Derived.Lib.CountLaws
import Derived.Sort.Grow
import Derived.Lib.SlicesCompact
import Derived.Lib.AppendZerosOnto
import Derived.Laws.CopyRow
import Derived.Lib.Overlaps
import Derived.Laws.Externs
import Derived.OrdersIn
import Derived.RangeFuncCalls
import Derived.RangeFuncLeaves
import Derived.RangeFuncRecord
import Derived.RangeFuncSeq
set_option linter.unusedVariables false
set_option linter.unusedSimpArgs false
set_option maxRecDepth 100000

namespace Go.PK
open Go Go.RowKit
theorem rowOK.set {size n b c k : Nat} {cs xs : List Value} {v : Value} (h : rowOK size (some (b, cs, c)) n xs) (hk : k < n * size) : rowOK size (some (b, cs.set k v, c)) n (xs.set k v) := by
  obtain ⟨h1, h2, h3, h4, h5⟩ := h
  exact ⟨by simpa using h1, h2, h3, by simpa using h4, by simp only at h5 ⊢; rw [List.take_set, h5]⟩
theorem rowOK.setI {n b c k : Nat} {cs : List Value} {xs : List Int} {x : Int} (h : rowOK 1 (some (b, cs, c)) n (xs.map (Value.int .i64))) (hk : k < n) : rowOK 1 (some (b, cs.set k (.int .i64 x), c)) n ((xs.set k x).map (Value.int .i64)) := by
  rw [List.map_set]; exact h.set (by omega)
theorem ints_cells {D : Nat → Prop} {w : World} : ∀ {css : List (List Value)} {xs : List Int}, css.length = xs.length → (∀ j (h1 : j < css.length) (h2 : j < xs.length), tyI.rd D w css[j] xs[j]) → css.flatten = xs.map (Value.int .i64)
  | [], [], _, _ => rfl
  | [], _ :: _, h, _ => by simp at h
  | _ :: _, [], h, _ => by simp at h
  | c :: css, x :: xs, hl, h => by
    have h0 := (h 0 (by simp) (by simp)).1
    have ih := ints_cells (css := css) (xs := xs) (by simpa using hl) (fun j h1 h2 => h (j + 1) (by simpa using h1) (by simpa using h2))
    have h0 : c = [Value.int .i64 x] := h0
    rw [List.flatten_cons, ih, h0]; rfl
theorem ints_news {D : Nat → Prop} {w : World} {A : Option Addr} {m c : Nat} {xs : List Int} (h : sliceRd tyI D w (.slice A m c) xs) :
    (A = none → m = 0) ∧ (∀ w1, Later w w1 → ∀ a, A = some a → ∀ j u, (xs.map (Value.int .i64))[j]? = some u → w1.cell? (a.add j) = some u) ∧ m = xs.length := by
  obtain ⟨css, hcl, hm, _, hrd, hno, hat, _⟩ := h.cells
  rw [ints_cells hcl hrd] at hat
  exact ⟨hno, fun w1 hl a ha j u hu => by have := hat a ha j u hu; exact (hl.cell (cell_lt this)).trans this, hm⟩
theorem ints_one (xs : List Int) : (xs.map (Value.int .i64)).all (fun u => u.oneCell') = true := by
  rw [List.all_eq_true]; intro u hu; obtain ⟨x, _, rfl⟩ := List.mem_map.1 hu; rfl
theorem put_v {cs : List Value} {k : Nat} {x : Int} (h : k < cs.length) : List.take (0 + k * 1) cs ++ (Value.int .i64 x).cells.toList ++ List.drop (0 + k * 1 + 1) cs = cs.set k (.int .i64 x) := by
  rw [Nat.mul_one, Nat.zero_add]
  show List.take k cs ++ [Value.int .i64 x] ++ List.drop (k + 1) cs = _
  rw [List.set_eq_take_append_cons_drop, if_pos h]; simp
theorem lvOK.dr : ∀ {ss ls : List Int} (h : lvOK ss ls) (i : Nat), lvOK (ss.drop i) (ls.drop i)
  | _, _, h, 0 => h
  | [], [], h, i + 1 => by simpa using h
  | [], _ :: _, h, _ => by have := h.1; simp at this
  | _ :: _, [], h, _ => by have := h.1; simp at this
  | s :: ss, l :: ls, h, i + 1 => by simpa using h.tl.dr i
theorem rightQ.lv {p : Pat} (h : rightQ p) : lvOK p.st.tail p.lv.tail := by
  obtain ⟨s0, ls, ss, h1, h2, _, _, h5, _⟩ := h.split
  rw [h1, h2]; exact h5
def carryR (p : Pat) (k : Int) (i : Nat) : Int := (lowR (p.st.tail.drop i) (p.lv.tail.drop i) k).2
def outR (p : Pat) (k : Int) (i : Nat) : List Int := p.st.take (i + 1) ++ (lowR (p.st.tail.drop i) (p.lv.tail.drop i) k).1
theorem outR_start {p : Pat} (h : rightQ p) (k : Int) : outR p k (p.lv.length - 1) = p.st ∧ carryR p k (p.lv.length - 1) = k := by
  have h1 := h.1.1
  have h2 := h.1.2.2.1
  unfold outR carryR
  rw [List.drop_eq_nil_of_le (as := p.st.tail) (by simp; omega), List.take_of_length_le (by omega)]
  exact ⟨by simp [lowR], by simp [lowR]⟩
theorem outR_step {p : Pat} {k : Int} {i : Nat} (hs : p.st.length = p.lv.length) (h : i + 1 < p.lv.length) : (outR p k (i + 1)).getD (i + 1) 0 = p.st.getD (i + 1) 0 ∧
    carryR p k i = (p.st.getD (i + 1) 0 - 1 + carryR p k (i + 1)) / p.lv.getD (i + 1) 0 ∧ outR p k i = (outR p k (i + 1)).set (i + 1) ((p.st.getD (i + 1) 0 - 1 + carryR p k (i + 1)) % p.lv.getD (i + 1) 0 + 1) := by
  have hi : i + 1 < p.st.length := by omega
  have e1 : p.st.tail.drop i = p.st.getD (i + 1) 0 :: p.st.tail.drop (i + 1) := by rw [drop_getD (show i < p.st.tail.length by simp; omega), getD_tail]
  have e2 : p.lv.tail.drop i = p.lv.getD (i + 1) 0 :: p.lv.tail.drop (i + 1) := by rw [drop_getD (show i < p.lv.tail.length by simp; omega), getD_tail]
  have e3 : p.st.take (i + 1 + 1) = p.st.take (i + 1) ++ [p.st.getD (i + 1) 0] := by rw [List.take_succ_eq_append_getElem hi, getD_lt hi]
  unfold outR carryR
  refine ⟨?_, by rw [e1, e2]; rfl, ?_⟩
  · rw [e3, List.append_assoc, List.getD_eq_getElem?_getD, List.getElem?_append_right (by simp; omega)]
    simp [Nat.min_eq_left (show i + 1 ≤ p.st.length by omega)]
  · rw [e3, List.append_assoc, List.set_append_right _ _ (by simp; omega), e1, e2]
    simp [Nat.min_eq_left (show i + 1 ≤ p.st.length by omega), lowR]
theorem outR_end {p : Pat} (h : rightQ p) (k : Int) : (outR p k 0).getD 0 0 = p.st.getD 0 0 ∧ (outR p k 0).set 0 (p.st.getD 0 0 + carryR p k 0) = numsP p k := by
  unfold outR carryR numsP lowK baseP
  have hl := low_ref p.st.tail p.lv.tail 0 k h.lv
  rw [hl, List.drop_zero, List.drop_zero]
  cases hs : p.st with
  | nil => have h2 := h.1.2.2.1; have h1 := h.1.1; rw [hs] at h2; simp at h2; rw [← h2] at h1; simp at h1
  | cons s ss => simp
theorem outR_len {p : Pat} (h : rightQ p) {k : Int} {i : Nat} (hi : i < p.lv.length) : (outR p k i).length = p.lv.length := by
  have h2 := h.1.2.2.1
  unfold outR
  rw [List.length_append, List.length_take, lowR_len _ _ _ (h.lv.dr i).1, List.length_drop, List.length_tail]; omega
theorem carryR_rng {p : Pat} (h : rightQ p) {k : Int} (hk : 0 ≤ k) (i : Nat) : 0 ≤ carryR p k i ∧ carryR p k i ≤ k := lowR_rng _ _ k (h.lv.dr i) hk
def madeL (l : List Int) : List Int := (l.take 3).map fun x => 1 + x % 12
def madeS (l : List Int) : List Int := (l.take 3).map fun x => 1 + x.tdiv 12 % (1 + x % 12)
def madeP (f d : Int) (l : List Int) : Pat := ⟨10000 + f % 10000, 1 + d % 10000, 0 :: madeL l, f % 50 :: madeS l⟩
theorem made_right (f d : Int) (l : List Int) : rightQ (madeP f d l) := by
  have m1 := Int.emod_nonneg f (show (10000 : Int) ≠ 0 by decide)
  have m2 := Int.emod_lt_of_pos f (show (0 : Int) < 10000 by decide)
  have m3 := Int.emod_nonneg d (show (10000 : Int) ≠ 0 by decide)
  have m4 := Int.emod_lt_of_pos d (show (0 : Int) < 10000 by decide)
  have m5 := Int.emod_nonneg f (show (50 : Int) ≠ 0 by decide)
  have m6 := Int.emod_lt_of_pos f (show (0 : Int) < 50 by decide)
  have hL : (madeL l).length = min 3 l.length := by simp [madeL]
  have hS : (madeS l).length = min 3 l.length := by simp [madeS]
  refine ⟨⟨by simp [madeP], by simp only [madeP, List.length_cons]; omega, by simp only [madeP, List.length_cons]; omega, rfl, m5, ?_⟩, fun j h1 h2 => ?_, ⟨by simp only [madeP]; omega, by simp only [madeP]; omega⟩, by simp only [madeP, okDay]; omega⟩
  · show f % 50 ≤ 1000000; omega
  · obtain ⟨i, rfl⟩ : ∃ i, j = i + 1 := ⟨j - 1, by omega⟩
    have hi : i < (madeL l).length := by simpa [madeP] using h1
    have hi2 : i < (madeS l).length := by omega
    have hi3 : i < (l.take 3).length := by simpa [madeL] using hi
    unfold lvAt
    simp only [madeP, List.getD_cons_succ]
    rw [getD_lt hi, getD_lt hi2]
    simp only [madeL, madeS, List.getElem_map]
    generalize (l.take 3)[i] = x
    have a1 := Int.emod_nonneg x (show (12 : Int) ≠ 0 by decide)
    have a2 := Int.emod_lt_of_pos x (show (0 : Int) < 12 by decide)
    have a3 := Int.emod_nonneg (x.tdiv 12) (show (1 + x % 12 : Int) ≠ 0 by omega)
    have a4 := Int.emod_lt_of_pos (x.tdiv 12) (show (0 : Int) < 1 + x % 12 by omega)
    omega
theorem tdiv_in {x : Int} (h : -9223372036854775808 ≤ x ∧ x ≤ 9223372036854775807) {m : Int} (hm : 0 < m) : -9223372036854775808 ≤ x.tdiv m ∧ x.tdiv m ≤ 9223372036854775807 := by
  rcases Int.le_total 0 x with h0 | h0
  · rw [Int.tdiv_eq_ediv_of_nonneg h0]
    have := Int.ediv_le_self m h0
    have := Int.ediv_nonneg h0 (show 0 ≤ m by omega)
    omega
  · have e : x.tdiv m = -((-x).tdiv m) := by rw [Int.neg_tdiv, Int.neg_neg]
    rw [e, Int.tdiv_eq_ediv_of_nonneg (by omega)]
    have := Int.ediv_le_self m (show 0 ≤ -x by omega)
    have := Int.ediv_nonneg (show 0 ≤ -x by omega) (show 0 ≤ m by omega)
    omega
theorem made_in (f d : Int) (l : List Int) : (∀ x ∈ 0 :: madeL l, in64 x) ∧ ∀ x ∈ f % 50 :: madeS l, in64 x := by
  have m5 := Int.emod_nonneg f (show (50 : Int) ≠ 0 by decide)
  have m6 := Int.emod_lt_of_pos f (show (0 : Int) < 50 by decide)
  have key : ∀ x : Int, (0 ≤ 1 + x % 12 ∧ 1 + x % 12 ≤ 12) ∧ (0 ≤ 1 + x.tdiv 12 % (1 + x % 12) ∧ 1 + x.tdiv 12 % (1 + x % 12) ≤ 12) := fun x => by
    have a1 := Int.emod_nonneg x (show (12 : Int) ≠ 0 by decide)
    have a2 := Int.emod_lt_of_pos x (show (0 : Int) < 12 by decide)
    have a3 := Int.emod_nonneg (x.tdiv 12) (show (1 + x % 12 : Int) ≠ 0 by omega)
    have a4 := Int.emod_lt_of_pos (x.tdiv 12) (show (0 : Int) < 1 + x % 12 by omega)
    omega
  constructor
  · intro x hx
    rcases List.mem_cons.1 hx with rfl | hx
    · unfold in64; omega
    · obtain ⟨y, _, rfl⟩ := List.mem_map.1 hx
      have := (key y).1; unfold in64; omega
  · intro x hx
    rcases List.mem_cons.1 hx with rfl | hx
    · unfold in64; omega
    · obtain ⟨y, _, rfl⟩ := List.mem_map.1 hx
      have := (key y).2; unfold in64; omega
theorem madeL_snoc {l : List Int} {k : Nat} (hk : k < l.length) (h : k < 3) : madeL (l.take (k + 1)) = madeL (l.take k) ++ [1 + l[k] % 12] := by
  unfold madeL
  rw [List.take_take, List.take_take, Nat.min_eq_right (by omega), Nat.min_eq_right (by omega), ← List.take_append_getElem hk, List.map_append]; rfl
theorem madeS_snoc {l : List Int} {k : Nat} (hk : k < l.length) (h : k < 3) : madeS (l.take (k + 1)) = madeS (l.take k) ++ [1 + l[k].tdiv 12 % (1 + l[k] % 12)] := by
  unfold madeS
  rw [List.take_take, List.take_take, Nat.min_eq_right (by omega), Nat.min_eq_right (by omega), ← List.take_append_getElem hk, List.map_append]; rfl
theorem made_all {l : List Int} {k : Nat} (h : k = l.length ∨ k = 3) : madeL (l.take k) = madeL l ∧ madeS (l.take k) = madeS l := by
  unfold madeL madeS
  rw [List.take_take]
  rcases h with rfl | rfl
  · by_cases h : l.length ≤ 3
    · rw [Nat.min_eq_right h, List.take_of_length_le (Nat.le_refl _), List.take_of_length_le h]; exact ⟨rfl, rfl⟩
    · rw [Nat.min_eq_left (by omega)]; exact ⟨rfl, rfl⟩
  · exact ⟨rfl, rfl⟩
end Go.PK

namespace Go.PK
open Go Go.RowKit
end Go.PK

namespace Go.PK
open Go Go.RowKit
def digB8 (c : UInt8) : Bool := decide (48 ≤ c.toNat ∧ c.toNat ≤ 57)
def numF (l : List UInt8) (a : Nat) : Nat := l.foldl (fun a c => 10 * a + (c.toNat - 48)) a
def canonL (l : List UInt8) : Prop := l ≠ [] ∧ (∀ c ∈ l, digB8 c = true) ∧ (1 < l.length → l.head? ≠ some 48)
instance (l : List UInt8) : Decidable (canonL l) := by unfold canonL; infer_instance
theorem dec_small {u : Nat} (h : u < 10) : Lib.decDigits u = [UInt8.ofNat (48 + u)] := by rw [Lib.decDigits, dif_pos h]
theorem dec_big {u : Nat} (h : ¬u < 10) : Lib.decDigits u = Lib.decDigits (u / 10) ++ [UInt8.ofNat (48 + u % 10)] := by rw [Lib.decDigits, dif_neg h]
theorem itoaS_nn {n : Int} (h : 0 ≤ n) : bl (itoaS n) = Lib.decDigits n.toNat := by
  unfold itoaS Lib.itoa; rw [if_neg (by omega)]; rfl
theorem bl_app (a b : ByteArray) : bl (a ++ b) = bl a ++ bl b := by
  unfold bl; rw [ByteArray.data_append, Array.toList_append]
end Go.PK

namespace Go.PK
open Go Go.RowKit
theorem p3 (a b c : UInt8) (s : ByteArray) : (⟨#[a, b, c]⟩ : ByteArray) ++ s = ((⟨#[a, b]⟩ : ByteArray) ++ ⟨#[c]⟩) ++ s := rfl
theorem p4 (a b c d : UInt8) (s : ByteArray) : (⟨#[a, b, c, d]⟩ : ByteArray) ++ s = ((⟨#[a, b, c]⟩ : ByteArray) ++ ⟨#[d]⟩) ++ s := rfl
theorem c46 : ((46 : UInt8).toNat < 48 ∨ 57 < (46 : UInt8).toNat) := .inl (by decide)
end Go.PK

namespace Go.PK
open Go Go.RowKit
end Go.PK

namespace Go.PK
open Go Go.RowKit
def pf (o : Ord) : Ord := { o with fund := 1 }
end Go.PK

namespace Go.PK
open Go Go.RowKit
theorem take_snoc {α : Type} {ls : List α} {k : Nat} (hk : k < ls.length) : ls.take (k + 1) = ls.take k ++ [ls[k]] := List.take_succ_eq_append_getElem hk
end Go.PK

namespace Go.PK
open Go Go.RowKit
structure Ent where
  fr : Int
  to : Int
  sk : Bool
  day : Int
deriving DecidableEq
def entC (x : Ent) : List Value := [.int .i64 x.fr, .int .i64 x.to, .bool x.sk, .int .i64 x.day]
def entsC (l : List Ent) : List Value := l.flatMap entC
def entIn (x : Ent) : Prop := in64 x.fr ∧ in64 x.to ∧ in64 x.day
def tyEnt : Ty Ent where
  size := 4
  rd := fun _ _ cs x => cs = entC x ∧ entIn x
  len := fun h => by rw [h.1]; rfl
  keep := fun h _ => h
theorem ent_at {D : Nat → Prop} {w : World} {A : Option Addr} {l c : Nat} {xs : List Ent} (h : sliceRd tyEnt D w (.slice A l c) xs) {k : Nat} (hk : k < xs.length) :
    ∃ b off, A = some ⟨b, off, none⟩ ∧ D b ∧ (∀ j (hj : j < (entC xs[k]).length), w.cell? ⟨b, off + k * 4 + j, none⟩ = some (entC xs[k])[j]) ∧ entIn xs[k] := by
  obtain ⟨A', c', e, h1, h2, h3⟩ := h
  injection e with e1 e2 e3
  obtain ⟨b, off, hA, hD, hb, hc⟩ := h3 (by omega)
  obtain ⟨cs, hcs, hr, hok⟩ := hc k hk
  subst hr
  exact ⟨b, off, e1.trans hA, hD, fun j hj => hcs j hj, hok⟩
theorem entsC_len (l : List Ent) : (entsC l).length = l.length * 4 := by
  induction l with
  | nil => rfl
  | cons x xs ih => show (entC x ++ entsC xs).length = _; rw [List.length_append, ih, List.length_cons]; show 4 + _ = _; omega
theorem entsC_one (l : List Ent) : (entsC l).all (fun u => u.oneCell') = true := by
  rw [List.all_eq_true]; intro u hu
  obtain ⟨x, _, hx⟩ := List.mem_flatMap.1 hu
  simp only [entC, List.mem_cons, List.mem_nil_iff, or_false] at hx
  rcases hx with rfl | rfl | rfl | rfl <;> rfl
theorem entsC_app (a b : List Ent) : entsC (a ++ b) = entsC a ++ entsC b := by unfold entsC; rw [List.flatMap_append]
theorem entsC_take : ∀ (l : List Ent) (i : Nat), (entsC l).take (i * 4) = entsC (l.take i)
  | _, 0 => by simp [entsC]
  | [], i + 1 => by simp [entsC]
  | x :: xs, i + 1 => by
    show (entC x ++ entsC xs).take _ = entC x ++ entsC (xs.take i)
    rw [← entsC_take xs i, Nat.add_mul]; rfl
theorem entsC_drop : ∀ (l : List Ent) (i : Nat), (entsC l).drop (i * 4) = entsC (l.drop i)
  | _, 0 => by simp
  | [], i + 1 => by simp [entsC]
  | x :: xs, i + 1 => by
    show (entC x ++ entsC xs).drop _ = entsC (xs.drop i)
    rw [← entsC_drop xs i, Nat.add_mul, Nat.add_comm, ← List.drop_drop]; rfl
theorem ents_rd {D : Nat → Prop} {w : World} {own : List (Nat × Obj)} {ro : List Snap} {e : TypeId} {R : RowS} {es : List Ent} {n : Nat} (hr : rowOK 4 R n (entsC es)) (hn : n = es.length) (hi : ∀ x ∈ es, entIn x)
    (hm : Mem w own ro) (hin : ∀ p ∈ rowO e R, p ∈ own) (hD : ∀ p ∈ rowO e R, D p.1) : sliceRd tyEnt D w (rowV R n) es := by
  subst hn
  have h : RowT tyEnt (fun _ => False) w R es := ⟨es.map entC, by simp, by rw [← List.flatMap_def]; exact hr, fun j h1 h2 => by rw [List.getElem_map]; exact ⟨rfl, hi _ (List.getElem_mem h2)⟩⟩
  exact h.rd hm hin (fun _ h => h.elim) hD rfl
def atoiV (x : ByteArray) : Int := match Lib.atoiAll (bl x) with | .ok n => n | _ => 0
def numOKb (x : ByteArray) : Bool := match Lib.atoiAll (bl x) with | .ok n => decide (0 ≤ n) && decide (x.size ≤ 7) && decide (itoaS n = x) | _ => false
theorem numOK_yes {x : ByteArray} {n : Int} (h : Lib.atoiAll (bl x) = .ok n) : atoiV x = n ∧ numOKb x = (decide (0 ≤ n) && decide (x.size ≤ 7) && decide (itoaS n = x)) := by unfold atoiV numOKb; rw [h]; exact ⟨rfl, rfl⟩
theorem numOK_no {x : ByteArray} (h : ∀ v, Lib.atoiAll (bl x) ≠ .ok v) : numOKb x = false := by
  unfold numOKb
  cases hq : Lib.atoiAll (bl x) with
  | ok v => exact absurd hq (h v)
  | _ => rfl
theorem atoiV_in (x : ByteArray) : in64 (atoiV x) := by
  unfold atoiV
  cases hq : Lib.atoiAll (bl x) with
  | ok v => exact Lib.atoiAll_bounds hq
  | _ => unfold in64; decide
def splitG (s sep : ByteArray) : List ByteArray := Lib.splitB sep 0 (Lib.countB s sep) s
def slash : ByteArray := ⟨#[47]⟩
def numsOf (s : ByteArray) : List Int × Bool := if (splitG s slash).all numOKb then ((splitG s slash).map atoiV, decide ((splitG s slash).length ≤ 4)) else ([], false)
def cutG (s sep : ByteArray) : ByteArray × ByteArray × Bool := (⟨(Lib.cut (bl s) (bl sep)).1.toArray⟩, ⟨(Lib.cut (bl s) (bl sep)).2.1.toArray⟩, (Lib.cut (bl s) (bl sep)).2.2)
theorem num_case {x : ByteArray} {n : Int} {b : Bool} (h1 : b = false → Lib.atoiAll (bl x) = .ok n) (h2 : b = true → ∀ v, Lib.atoiAll (bl x) ≠ .ok v) :
    numOKb x = !(((b || decide (n < 0)) || decide ((x.size : Int) > 7)) || decide (itoaS n ≠ x)) := by
  cases b with
  | true => rw [numOK_no (h2 rfl)]; simp
  | false =>
    rw [(numOK_yes (h1 rfl)).2, Bool.eq_iff_iff]
    simp only [Bool.and_eq_true, decide_eq_true_eq, Bool.false_or, Bool.not_eq_true', Bool.or_eq_false_iff, decide_eq_false_iff_not, ne_eq, Decidable.not_not]
    exact ⟨fun ⟨⟨a, b⟩, c⟩ => ⟨⟨by omega, by omega⟩, c⟩, fun ⟨⟨a, b⟩, c⟩ => ⟨⟨by omega, by omega⟩, c⟩⟩
theorem numsOf_no {s : ByteArray} {k : Nat} (hk : k < (splitG s slash).length) (h : numOKb (splitG s slash)[k] = false) : numsOf s = ([], false) := by
  unfold numsOf
  rw [if_neg fun h2 => ?_]
  have := List.all_eq_true.1 h2 _ (List.getElem_mem hk)
  rw [h] at this; cases this
theorem numsOf_yes {s : ByteArray} (h : ∀ j (hj : j < (splitG s slash).length), numOKb (splitG s slash)[j] = true) : numsOf s = ((splitG s slash).map atoiV, decide ((splitG s slash).length ≤ 4)) := by
  unfold numsOf
  rw [if_pos (List.all_eq_true.2 fun x hx => by obtain ⟨j, hj, rfl⟩ := List.getElem_of_mem hx; exact h j hj)]
def insI (es : List Ent) (to : Int) : Nat := es.findIdx (fun e => decide (to < e.fr))
def insE (es : List Ent) (x : Ent) : List Ent := es.take (insI es x.to) ++ x :: es.drop (insI es x.to)
theorem insI_le (es : List Ent) (to : Int) : insI es to ≤ es.length := List.findIdx_le_length
theorem insI_idx (es : List Ent) (to : Int) : fidx (fun e : Ent => decide (to < e.fr)) es = if insI es to < es.length then ((insI es to : Nat) : Int) else -1 := by
  unfold fidx insI
  rw [List.findIdx?_eq_guard_findIdx_lt]
  by_cases h : List.findIdx (fun e : Ent => decide (to < e.fr)) es < es.length
  · rw [if_pos h]; simp [Option.guard, h]
  · rw [if_neg h]; simp [Option.guard, h]
def takeP (p : Pat) (es : List Ent) (sk : Bool) (f t : List Int) (day : Int) : List Ent × Int :=
  match numP p f, numP p t with
  | some i, some j => if j < i ∨ 100 ≤ j - i then (es, 32) else if es.any (fun e => decide (i ≤ e.to) && decide (e.fr ≤ j)) then (es, 22) else (insE es ⟨i, j, sk, day⟩, 0)
  | _, _ => (es, 32)
def tkR (text : ByteArray) : ByteArray := ⟨(Lib.trimPrefix (bl text) (bl ⟨#[120]⟩)).toArray⟩
def tkA (text : ByteArray) : ByteArray := (cutG (tkR text) ⟨#[45]⟩).1
def tkB (text : ByteArray) : ByteArray := if (cutG (tkR text) ⟨#[45]⟩).2.2 then (cutG (tkR text) ⟨#[45]⟩).2.1 else (cutG (tkR text) ⟨#[45]⟩).1
def tkS (text : ByteArray) : Bool := Lib.hasPrefix (bl text) (bl ⟨#[120]⟩)
def takeQ (p : Pat) (es : List Ent) (text : ByteArray) (day : Int) : List Ent × Int :=
  if (!(numsOf (tkA text)).2 || !(numsOf (tkB text)).2) = true then (es, 11) else if okDay day then takeP p es (tkS text) (numsOf (tkA text)).1 (numsOf (tkB text)).1 day else (es, 1)
theorem trim_sz (s p : List UInt8) : (Lib.trimPrefix s p).length ≤ s.length := by
  unfold Lib.trimPrefix
  split
  · rw [List.length_drop]; omega
  · exact Nat.le_refl _
theorem cutG_le (s sep : ByteArray) : (cutG s sep).1.size ≤ s.size ∧ (cutG s sep).2.1.size ≤ s.size := by
  have e : s.size = (bl s).length := (bl_len s).symm
  unfold cutG Lib.cut
  split
  · constructor
    · show (List.toArray _).size ≤ _; rw [List.size_toArray, e]; exact List.length_take_le' _ _
    · show (List.toArray _).size ≤ _; rw [List.size_toArray, e, List.length_drop]; omega
  · constructor
    · show (List.toArray _).size ≤ _; rw [List.size_toArray, e]; exact Nat.le_refl _
    · exact Nat.zero_le _
theorem tk_sz (text : ByteArray) : (tkR text).size ≤ text.size ∧ (tkA text).size ≤ text.size ∧ (tkB text).size ≤ text.size := by
  have h1 : (tkR text).size ≤ text.size := by
    show (List.toArray _).size ≤ _
    rw [List.size_toArray]
    have := trim_sz (bl text) (bl ⟨#[120]⟩)
    rw [bl_len] at this; exact this
  have h2 := cutG_le (tkR text) ⟨#[45]⟩
  refine ⟨h1, Nat.le_trans h2.1 h1, ?_⟩
  unfold tkB
  split
  · exact Nat.le_trans h2.2 h1
  · exact Nat.le_trans h2.1 h1
theorem numP_rng (p : Pat) (ns : List Int) : 0 ≤ (numP p ns).getD 0 ∧ (numP p ns).getD 0 < 100000 := by
  by_cases h : numC p ns
  · rw [(numP_some h).1]; exact h.2.2.2.2.2
  · rw [(numP_none h).1]; decide
theorem takeP_none {p : Pat} {es : List Ent} {sk : Bool} {f t : List Int} {day : Int} (h : (numP p f).isSome = false ∨ (numP p t).isSome = false) : takeP p es sk f t day = (es, 32) := by
  unfold takeP
  cases hf : numP p f <;> cases ht : numP p t <;> simp [hf, ht] at h ⊢
theorem takeP_some {p : Pat} {es : List Ent} {sk : Bool} {f t : List Int} {day : Int} (h1 : (numP p f).isSome = true) (h2 : (numP p t).isSome = true) :
    takeP p es sk f t day = if (numP p t).getD 0 < (numP p f).getD 0 ∨ 100 ≤ (numP p t).getD 0 - (numP p f).getD 0 then (es, 32) else
      if es.any (fun e => decide ((numP p f).getD 0 ≤ e.to) && decide (e.fr ≤ (numP p t).getD 0)) then (es, 22) else (insE es ⟨(numP p f).getD 0, (numP p t).getD 0, sk, day⟩, 0) := by
  unfold takeP
  cases hf : numP p f <;> cases ht : numP p t <;> simp [hf, ht] at h1 h2 ⊢
theorem put_two {cs A B C : List Value} {a : Nat} (h : cs.take a = A) (ha : A.length = a) (hl : a + B.length + C.length ≤ cs.length) :
    ((cs.take a ++ B ++ cs.drop (a + B.length)).take (a + B.length) ++ C ++ (cs.take a ++ B ++ cs.drop (a + B.length)).drop (a + B.length + C.length)).length = cs.length ∧
    ((cs.take a ++ B ++ cs.drop (a + B.length)).take (a + B.length) ++ C ++ (cs.take a ++ B ++ cs.drop (a + B.length)).drop (a + B.length + C.length)).take (a + B.length + C.length) = A ++ (B ++ C) := by
  have hla : (cs.take a ++ B).length = a + B.length := by rw [h, List.length_append, ha]
  refine ⟨?_, ?_⟩
  · simp only [List.length_append, List.length_take, List.length_drop]; omega
  · rw [show (cs.take a ++ B ++ cs.drop (a + B.length)).take (a + B.length) = cs.take a ++ B from by rw [← hla]; exact List.take_left, h]
    rw [show a + B.length + C.length = (A ++ B ++ C).length by simp [ha]; omega, List.take_left, List.append_assoc]
theorem put_back {cs A B C : List Value} {a : Nat} (h : cs.take a = A) (ha : A.length = a) (hl : a + B.length + C.length ≤ cs.length) :
    ((cs.take (a + B.length) ++ C ++ cs.drop (a + B.length + C.length)).take a ++ B ++ (cs.take (a + B.length) ++ C ++ cs.drop (a + B.length + C.length)).drop (a + B.length)).length = cs.length ∧
    ((cs.take (a + B.length) ++ C ++ cs.drop (a + B.length + C.length)).take a ++ B ++ (cs.take (a + B.length) ++ C ++ cs.drop (a + B.length + C.length)).drop (a + B.length)).take (a + B.length + C.length) = A ++ (B ++ C) := by
  have hla : (cs.take (a + B.length)).length = a + B.length := by rw [List.length_take]; omega
  have e1 : (cs.take (a + B.length) ++ C ++ cs.drop (a + B.length + C.length)).take a = A := by
    rw [List.append_assoc, List.take_append_of_le_length (by omega), List.take_take, Nat.min_eq_left (by omega), h]
  have e2 : (cs.take (a + B.length) ++ C ++ cs.drop (a + B.length + C.length)).drop (a + B.length) = C ++ cs.drop (a + B.length + C.length) := by
    rw [List.append_assoc]
    have h9 := List.drop_left (l₁ := cs.take (a + B.length)) (l₂ := C ++ cs.drop (a + B.length + C.length))
    rw [hla] at h9
    exact h9
  rw [e1, e2]
  refine ⟨?_, ?_⟩
  · simp only [List.length_append, List.length_drop]; omega
  · rw [show A ++ B ++ (C ++ cs.drop (a + B.length + C.length)) = (A ++ (B ++ C)) ++ cs.drop (a + B.length + C.length) by simp [List.append_assoc], show a + B.length + C.length = (A ++ (B ++ C)).length by simp [ha]; omega]
    exact List.take_left
theorem ents_at {es : List Ent} {cs : List Value} (h : cs.take (es.length * 4) = entsC es) {i : Nat} (hi : i ≤ es.length) : cs.take (i * 4) = entsC (es.take i) := by
  rw [← entsC_take, ← h, List.take_take, Nat.min_eq_left (by omega)]
theorem ents_get {es : List Ent} {cs : List Value} (h : cs.take (es.length * 4) = entsC es) (hl : es.length * 4 ≤ cs.length) {i : Nat} (hi : i ≤ es.length) {j : Nat} (hj : j < (entsC (es.drop i)).length) : cs[i * 4 + j]? = some (entsC (es.drop i))[j] := by
  have hlen : (entsC (es.drop i)).length = (es.length - i) * 4 := by rw [entsC_len, List.length_drop]
  have e : (entsC (es.drop i))[j]? = cs[i * 4 + j]? := by
    rw [← entsC_drop, ← h, List.getElem?_drop, List.getElem?_take_of_lt (by omega)]
  rw [← e]; exact List.getElem?_eq_getElem hj
end Go.PK

namespace Go.PK
open Go Go.RowKit
inductive Pl where
  | done
  | flt (i : Nat) (t : Pl)
  | gr (i : Nat) (t e : Pl)
  | nil
def Pl.heads : Pl → List Nat
  | .gr i _ e => i :: e.heads
  | _ => []
section
variable {P : Program} {ops : Array Oper} {md : Region.Mode}
def treeB (md : Region.Mode) (ops : Array Oper) (n : Nat) : Bool → Nat → Pl → Array Bool → Bool
  | alt, f, .done, listed => !alt && decide (f = 0) && Region.seqB md ops (ops.size - n) n listed
  | alt, f, .flt i t, listed => !alt && decide (0 < f) && decide (i < n) && (Region.ready md ops listed).contains i && Region.free md ops listed i && treeB md ops n false (f - 1) t (listed.setIfInBounds i true)
  | alt, f, .gr i t e, listed => (alt || ((Region.ready md ops listed).all (fun j => ((Pl.gr i t e).heads).contains j) && !(Region.ready md ops listed).isEmpty)) && decide (0 < f) && decide (i < n) && treeB md ops n false (f - 1) t (listed.setIfInBounds i true) && treeB md ops n true f e listed
  | alt, _, .nil, _ => alt
end
section
variable {P : Program} {n : Nat} {l : List (Nat × Value)} {own : List (Nat × Obj)} {ro : List Snap}
variable {ops : Array Oper} {Q : Exit → Act → World → Prop} {K : Act → World → Prop} {i : Nat} {t e : Pl}
end
end Go.PK

namespace Go.PK
open Go Go.RowKit
section
variable {P : Program} {ops : Array Oper} {md : Region.Mode} {w0 : World}
def canOp0 (P : Program) (ops : Array Oper) (w0 : World) (i : Nat) (K : Act → World → Prop) (a : Act) (w : World) : Prop :=
  ∀ w', Later w w' → Later w0 w' → wpOp P ops (fun _ _ _ => False) i (fun a'' w'' => Later w0 w'' ∧ K a'' w'') a w'
def Yields0 (P : Program) (ops : Array Oper) (w0 : World) (o : Oper) (v : Value) (a : Act) : Prop :=
  (Region.wanted o (yielded ops a.tmps) = true ∧ ∀ w', Later w0 w' → fltAt P o a w' v) ∨ (Region.wanted o (yielded ops a.tmps) = false ∧ v = undef)
theorem Yields0.of_same {o : Oper} {v : Value} {a a' : Act} (hy : Yields0 P ops w0 o v a) (he : execOp a'.eval o = execOp a.eval o)
    (hw : Region.wanted o (yielded ops a'.tmps) = Region.wanted o (yielded ops a.tmps)) : Yields0 P ops w0 o v a' := by
  unfold Yields0 fltAt at *
  rw [he, hw]
  exact hy
theorem Yields0.canOp {i : Nat} {o : Oper} {v : Value} {a : Act} {w : World} (hi : ops[i]? = some o) (hy : Yields0 P ops w0 o v a) {K : Act → World → Prop}
    (h : ∀ w', Later w w' → K (a.put o.dst v) w') : canOp0 P ops w0 i K a w := by
  intro w' hw' h0
  unfold Go.wpOp
  simp only [hi]
  rcases hy with ⟨hw, hv⟩ | ⟨hw, rfl⟩
  · rw [if_pos hw]
    refine .inl ?_
    have h3 := hv w' h0
    unfold fltAt at h3
    unfold Oper.wp
    generalize (execOp a.eval o).run P w' = r at *
    cases r with
    | ok n w1 =>
      cases n <;> simp only [fltUpon] at h3 <;> simp only [Oper.upon]
      case value u => obtain ⟨rfl, rfl⟩ := h3; exact ⟨h0, h _ hw'⟩
      case skip => obtain ⟨rfl, rfl⟩ := h3; exact ⟨h0, h _ hw'⟩
      case enter f args =>
        obtain ⟨rfl, hc⟩ := h3
        exact hc.mono fun e w2 ⟨he, hl⟩ => by subst he; exact ⟨h0.trans hl, h _ (hw'.trans hl)⟩
    | halt x w1 => simp only [fltUpon] at h3
  · rw [if_neg (by rw [hw]; exact Bool.false_ne_true)]
    exact ⟨h0, h _ hw'⟩
end
section
variable {P : Program} {n : Nat} {l : List (Nat × Value)} {own : List (Nat × Obj)} {ro : List Snap}
theorem Mem.frozen {w : World} (h : Mem w own ro) : Mem w [] ((w, fun _ => True) :: ro) where
  own_at := fun p hp => by cases hp
  own_nd := by simp
  ro_st := fun s hs => by
    rcases List.mem_cons.1 hs with rfl | hs
    · exact ⟨rfl, rfl, rfl, Nat.le_refl _⟩
    · exact h.ro_st s hs
  ro_at := fun s hs k hk hlt => by
    rcases List.mem_cons.1 hs with rfl | hs
    · rfl
    · exact h.ro_at s hs k hk hlt
  apart := fun p hp => by cases hp
variable {ops : Array Oper} {Q : Exit → Act → World → Prop} {K : Act → World → Prop} {i : Nat} {t e : Pl} {w0 : World}
end
end Go.PK

namespace Go.PK
open Go Go.RowKit
section
variable {P : Program} {ops : Array Oper} {md : Region.Mode} {oF : List (Nat × Obj)} {rF : List Snap}
def canOpJ (P : Program) (ops : Array Oper) (oF : List (Nat × Obj)) (rF : List Snap) (i : Nat) (K : Act → World → Prop) (a : Act) (w : World) : Prop :=
  ∀ w', Later w w' → Mem w' oF rF → wpOp P ops (fun _ _ _ => False) i (fun a'' w'' => Mem w'' oF rF ∧ K a'' w'') a w'
theorem canOpJ_mono {i : Nat} {a : Act} {w : World} {K K' : Act → World → Prop} (h : ∀ a w, K a w → K' a w) (hh : canOpJ P ops oF rF i K a w) : canOpJ P ops oF rF i K' a w :=
  fun w' hw h0 => wpOp_mono (fun _ _ hk => ⟨hk.1, h _ _ hk.2⟩) (hh w' hw h0)
theorem canOpJ_later {i : Nat} {a : Act} {w w1 : World} {K : Act → World → Prop} (hw : Later w w1) (hh : canOpJ P ops oF rF i K a w) : canOpJ P ops oF rF i K a w1 :=
  fun w' hw' h0 => hh w' (hw.trans hw') h0
def wpAnyJ (P : Program) (md : Region.Mode) (ops : Array Oper) (oF : List (Nat × Obj)) (rF : List Snap) (n : Nat) (L : Array Bool → Act → World → Prop) : Nat → Array Bool → Act → World → Prop
  | 0, listed, a, w => L listed a w
  | f + 1, listed, a, w => Region.ready md ops listed ≠ [] ∧ ∀ i ∈ Region.ready md ops listed, i < n ∧ canOpJ P ops oF rF i (wpAnyJ P md ops oF rF n L f (listed.setIfInBounds i true)) a w
theorem wpAnyJ_later {n : Nat} {L : Array Bool → Act → World → Prop} (hL : LaterClosed L) : ∀ (f : Nat) (listed : Array Bool) (a : Act) (w w' : World), Later w w' →
    wpAnyJ P md ops oF rF n L f listed a w → wpAnyJ P md ops oF rF n L f listed a w'
  | 0, _, _, _, _, h, hh => hL _ _ _ _ h hh
  | _ + 1, _, _, _, _, h, hh => ⟨hh.1, fun i hi => ⟨(hh.2 i hi).1, canOpJ_later h (hh.2 i hi).2⟩⟩
theorem wpAny_of_canJ {n g : Nat} {L : Array Bool → Act → World → Prop} {Q' : Exit → Act → World → Prop} (hL : ∀ listed a w, Mem w oF rF → L listed a w → wpAny P md ops Q' g listed a w) :
    ∀ (f : Nat) (listed : Array Bool) (a : Act) (w : World), Mem w oF rF → wpAnyJ P md ops oF rF n L f listed a w → wpAny P md ops Q' (f + g) listed a w
  | 0, listed, a, w, h0, h => by rw [Nat.zero_add]; exact hL _ _ _ h0 h
  | f + 1, listed, a, w, h0, h => by
    rw [show f + 1 + g = (f + g) + 1 by omega]
    refine ⟨fun he => absurd he h.1, fun i hi => ?_⟩
    have h1 := (h.2 i hi).2 w (Later.refl w) h0
    have h2 : wpOp P ops (fun _ _ _ => False) i (wpAny P md ops Q' (f + g) (listed.setIfInBounds i true)) a w :=
      wpOp_mono (fun a' w' h' => wpAny_of_canJ hL f _ a' w' h'.1 h'.2) h1
    unfold wpOp at h2 ⊢
    split
    · rename_i ho; simp only [ho] at h2; exact h2
    · rename_i o ho
      simp only [ho] at h2
      split
      · rename_i hw
        simp only [hw, if_true] at h2
        rcases h2 with h2 | ⟨_, _, _, h2⟩
        · refine .inl ?_
          unfold Oper.wp at h2 ⊢
          generalize (execOp a.eval o).run P w = r at *
          cases r with
          | ok x w' =>
            cases x <;> simp only [Oper.upon] at h2 ⊢ <;> first
              | exact h2
              | (refine Calls.mono h2 fun e w'' he => ?_
                 cases e with
                 | returned u => exact he
                 | panicked c => exact he.elim
                 | outgrown => obtain ⟨_, _, hf⟩ := he; exact hf.elim)
          | halt x w' => cases x <;> simp only [Oper.upon] at h2 ⊢
        · exact h2.elim
      · rename_i hw
        simp only [hw] at h2
        exact h2
def YieldsJ (P : Program) (ops : Array Oper) (oF : List (Nat × Obj)) (rF : List Snap) (o : Oper) (v : Value) (a : Act) : Prop :=
  (Region.wanted o (yielded ops a.tmps) = true ∧ ∀ w', Mem w' oF rF → fltAt P o a w' v) ∨ (Region.wanted o (yielded ops a.tmps) = false ∧ v = undef)
theorem YieldsJ.of_same {o : Oper} {v : Value} {a a' : Act} (hy : YieldsJ P ops oF rF o v a) (he : execOp a'.eval o = execOp a.eval o)
    (hw : Region.wanted o (yielded ops a'.tmps) = Region.wanted o (yielded ops a.tmps)) : YieldsJ P ops oF rF o v a' := by
  unfold YieldsJ fltAt at *
  rw [he, hw]
  exact hy
theorem YieldsJ.canOp {i : Nat} {o : Oper} {v : Value} {a : Act} {w : World} (hi : ops[i]? = some o) (hy : YieldsJ P ops oF rF o v a) {K : Act → World → Prop}
    (h : ∀ w', Later w w' → K (a.put o.dst v) w') : canOpJ P ops oF rF i K a w := by
  intro w' hw' h0
  unfold Go.wpOp
  simp only [hi]
  rcases hy with ⟨hw, hv⟩ | ⟨hw, rfl⟩
  · rw [if_pos hw]
    refine .inl ?_
    have h3 := hv w' h0
    unfold fltAt at h3
    unfold Oper.wp
    generalize (execOp a.eval o).run P w' = r at *
    cases r with
    | ok n w1 =>
      cases n <;> simp only [fltUpon] at h3 <;> simp only [Oper.upon]
      case value u => obtain ⟨rfl, rfl⟩ := h3; exact ⟨h0, h _ hw'⟩
      case skip => obtain ⟨rfl, rfl⟩ := h3; exact ⟨h0, h _ hw'⟩
      case enter f args =>
        obtain ⟨rfl, hc⟩ := h3
        exact hc.mono fun e w2 ⟨he, hl⟩ => by subst he; exact ⟨Mem.later h0 hl, h _ (hw'.trans hl)⟩
    | halt x w1 => simp only [fltUpon] at h3
  · rw [if_neg (by rw [hw]; exact Bool.false_ne_true)]
    exact ⟨h0, h _ hw'⟩
theorem canOp_putJ {j : Nat} {oi oj : Oper} {v : Value} (hj : ops[j]? = some oj) (hap : oi.apart ops oj = true)
    (hsi : ∀ cs b, oi.op ≠ .select cs b) (hsj : ∀ cs b, oj.op ≠ .select cs b) {K : Act → World → Prop} {a : Act} {w : World}
    (hy : YieldsJ P ops oF rF oi v a) (h : canOpJ P ops oF rF j K (a.put oi.dst v) w) :
    canOpJ P ops oF rF j (fun a' w' => YieldsJ P ops oF rF oi v a' ∧ K (a'.put oi.dst v) w') a w := by
  obtain ⟨h1, h2, h3⟩ := Oper.apart_spec hap
  intro w' hw' h0
  have keep : ∀ (a : Act), YieldsJ P ops oF rF oi v a → ∀ u, YieldsJ P ops oF rF oi v (a.put oj.dst u) := fun a hy u =>
    hy.of_same (execOp_put oi hsi a oj.dst u h3) (wanted_put oi a oj.dst u h3)
  have keepD : ∀ d, YieldsJ P ops oF rF oi v { a with defers := d :: a.defers } := fun d => hy.of_same rfl rfl
  have h := h w' hw' h0
  unfold Go.wpOp at *
  simp only [hj] at *
  rw [wanted_put oj a oi.dst v h1] at h
  split
  · rename_i hw
    simp only [hw, if_true] at h
    rcases h with h | ⟨hasks, _, _, hlets⟩
    case inr => exact hlets.elim
    refine .inl ?_
    unfold Oper.wp at *
    rw [execOp_put oj hsj a oi.dst v h1] at h
    generalize (execOp a.eval oj).run P w' = r at *
    cases r with
    | ok n w1 =>
      cases n <;> simp only [Oper.upon] at h ⊢
      case value u => exact ⟨h.1, keep a hy u, by rw [← Act.put_comm a v u h2]; exact h.2⟩
      case skip => exact ⟨h.1, keep a hy _, by rw [← Act.put_comm a v undef h2]; exact h.2⟩
      case defer d =>
        refine ⟨h.1, keep _ (keepD d) _, ?_⟩
        rw [← Act.put_comm _ v undef h2, ← Act.put_defers]
        exact h.2
      case enter f args =>
        refine Calls.mono h fun e w2 he => ?_
        cases e with
        | returned u => exact ⟨he.1, keep a hy u, by rw [← Act.put_comm a v u h2]; exact he.2⟩
        | panicked c => exact he
        | outgrown => exact he
      case row row args => exact Rows.mono h fun u w2 he => ⟨he.1, keep a hy u, by rw [← Act.put_comm a v u h2]; exact he.2⟩
    | halt x w1 =>
      cases x <;> simp only [Oper.upon] at h ⊢
  · rename_i hw
    simp only [hw] at h
    exact ⟨h.1, keep a hy _, by rw [← Act.put_comm a v undef h2]; exact h.2⟩
theorem wpAnyJ_first {n i : Nat} {oi : Oper} {v : Value} {L : Array Bool → Act → World → Prop} (hL : LaterClosed L) (hi : ops[i]? = some oi) (hsel : ∀ (j : Nat) (o : Oper) cs b, ops[j]? = some o → o.op ≠ .select cs b)
    (hnt : ∀ listed, HeadInv md ops n listed → listed.getD i true = false → ∀ j ∈ Region.ready md ops listed, j < n)
    (hdone : ∀ listed a w, L listed a w → ∀ j ∈ Region.ready md ops listed, n ≤ j) (hin : i < n) :
    ∀ (f : Nat) (listed : Array Bool) (a : Act) (w : World), HeadInv md ops n listed →
      (∀ j oj, ops[j]? = some oj → j ≠ i → listed.getD j true = false → (∀ e ∈ oj.after, Region.binds md e = true → e.on ≠ i) → oi.apart ops oj = true) →
      i ∈ Region.ready md ops listed → YieldsJ P ops oF rF oi v a →
      wpAnyJ P md ops oF rF n L f (listed.setIfInBounds i true) (a.put oi.dst v) w → wpAnyJ P md ops oF rF n L (f + 1) listed a w := by
  intro f
  induction f with
  | zero =>
    intro listed a w inv _ hr hy H
    have hun := (mem_ready.1 hr).1
    refine ⟨fun h => (by rw [h] at hr; cases hr), fun j hj => ?_⟩
    have hjn := hnt listed inv hun j hj
    refine ⟨hjn, ?_⟩
    by_cases hji : j = i
    · subst hji; exact hy.canOp hi fun w' hw' => hL _ _ _ _ hw' H
    · have := hdone _ _ _ H j (ready_mono hj hji)
      omega
  | succ f ih =>
    intro listed a w inv hfree hr hy H
    have hun := (mem_ready.1 hr).1
    refine ⟨fun h => (by rw [h] at hr; cases hr), fun j hj => ?_⟩
    have hjn := hnt listed inv hun j hj
    refine ⟨hjn, ?_⟩
    by_cases hji : j = i
    · subst hji; exact hy.canOp hi fun w' hw' => wpAnyJ_later hL _ _ _ _ _ hw' H
    · have h1 := (H.2 j (ready_mono hj hji)).2
      obtain ⟨hjun, oj, hoj, hall⟩ := mem_ready.1 hj
      have hnot : ∀ e ∈ oj.after, Region.binds md e = true → e.on ≠ i := fun e he hb heq => by
        have h1 := hall e he hb
        rw [heq, getD_both hun] at h1
        cases h1
      have h2 := canOp_putJ hoj (hfree j oj hoj hji hjun hnot) (fun cs b => hsel i oi cs b hi) (fun cs b => hsel j oj cs b hoj) hy h1
      have hfree' : ∀ k ok, ops[k]? = some ok → k ≠ i → (listed.setIfInBounds j true).getD k true = false →
          (∀ e ∈ ok.after, Region.binds md e = true → e.on ≠ i) → oi.apart ops ok = true := fun k ok hk hki hun hno => by
        refine hfree k ok hk hki ?_ hno
        by_cases hjk : j = k
        · subst hjk; exact hjun
        · rw [getD_set_ne true hjk] at hun; exact hun
      refine canOpJ_mono (fun a' w' h3 => ih (listed.setIfInBounds j true) a' w' (inv.set hj hjn) hfree' (ready_mono hr (Ne.symm hji)) h3.1 ?_) h2
      rw [Array.setIfInBounds_comm _ _ hji]
      exact h3.2
def wpJ (P : Program) (ops : Array Oper) (oF : List (Nat × Obj)) (rF : List Snap) (K : Act → World → Prop) : Pl → Act → World → Prop
  | .done, a, w => K a w
  | .flt i t, a, w => match ops[i]? with
    | none => False
    | some o => if Region.wanted o (yielded ops a.tmps) then ∃ v, (∀ w', Mem w' oF rF → fltAt P o a w' v) ∧ wpJ P ops oF rF K t (a.put o.dst v) w else wpJ P ops oF rF K t (a.put o.dst undef) w
  | .gr i t e, a, w => (match ops[i]? with
    | none => False
    | some o => if Region.wanted o (yielded ops a.tmps) then ∀ w', Later w w' → o.wp P a w' (fun a'' w'' => Mem w'' oF rF ∧ wpJ P ops oF rF K t a'' w'') (fun _ _ _ => False) else wpJ P ops oF rF K t (a.put o.dst undef) w) ∧ wpJ P ops oF rF K e a w
  | .nil, _, _ => True
theorem wpAnyJ_tree {n : Nat} {Q : Act → World → Prop} (hQ : ∀ a w w', Later w w' → Q a w → Q a w') (hsel : Region.noSelect ops = true)
    (hnt : ∀ i, i < n → ∀ listed, HeadInv md ops n listed → listed.getD i true = false → ∀ j ∈ Region.ready md ops listed, j < n) :
    ∀ (t : Pl) (f : Nat) (listed : Array Bool) (a : Act) (w : World), HeadInv md ops n listed →
      (treeB md ops n false f t listed = true → wpJ P ops oF rF Q t a w → wpAnyJ P md ops oF rF n (fun listed' a' w' => Region.seqB md ops (ops.size - n) n listed' = true ∧ Q a' w') f listed a w) ∧
      (treeB md ops n true f t listed = true → wpJ P ops oF rF Q t a w → ∀ j ∈ t.heads, j ∈ Region.ready md ops listed → 0 < f ∧ j < n ∧ canOpJ P ops oF rF j (wpAnyJ P md ops oF rF n (fun listed' a' w' => Region.seqB md ops (ops.size - n) n listed' = true ∧ Q a' w') (f - 1) (listed.setIfInBounds j true)) a w)
  | .done, f, listed, a, w, _ => ⟨fun hB h => by
      simp only [treeB, Bool.and_eq_true, decide_eq_true_eq] at hB
      obtain ⟨⟨_, rfl⟩, hB⟩ := hB
      exact ⟨hB, h⟩, fun hB => by simp [treeB] at hB⟩
  | .flt i t, f, listed, a, w, inv => ⟨fun hB h => by
      simp only [treeB, Bool.and_eq_true, decide_eq_true_eq] at hB
      obtain ⟨⟨⟨⟨⟨_, hf⟩, hin⟩, hr⟩, hfr⟩, hB'⟩ := hB
      obtain ⟨g, rfl⟩ : ∃ g, f = g + 1 := ⟨f - 1, by omega⟩
      have hr' : i ∈ Region.ready md ops listed := by simpa using hr
      unfold wpJ at h
      cases ho : ops[i]? with
      | none => simp only [ho] at h
      | some o =>
        simp only [ho] at h
        obtain ⟨v, hy, hK⟩ : ∃ v, YieldsJ P ops oF rF o v a ∧ wpJ P ops oF rF Q t (a.put o.dst v) w := by
          by_cases hw : Region.wanted o (yielded ops a.tmps) = true
          · rw [if_pos hw] at h
            obtain ⟨v, h1, h2⟩ := h
            exact ⟨v, .inl ⟨hw, h1⟩, h2⟩
          · rw [if_neg hw] at h
            exact ⟨undef, .inr ⟨by simpa using hw, rfl⟩, h⟩
        exact wpAnyJ_first (fun _ _ _ _ hw hq => ⟨hq.1, hQ _ _ _ hw hq.2⟩) ho (Region.noSelect_spec hsel) (hnt i hin) (fun _ _ _ hL => seqB_ready hL.1) hin g listed a w inv (Region.free_spec ho hfr) hr' hy
          ((wpAnyJ_tree hQ hsel hnt t g _ _ _ (inv.set hr' hin)).1 (by simpa using hB') hK), fun hB => by simp [treeB] at hB⟩
  | .gr i t e, f, listed, a, w, inv => by
      have alt : ∀ alt, treeB md ops n alt f (.gr i t e) listed = true → wpJ P ops oF rF Q (.gr i t e) a w → ∀ j ∈ (Pl.gr i t e).heads, j ∈ Region.ready md ops listed → 0 < f ∧ j < n ∧ canOpJ P ops oF rF j (wpAnyJ P md ops oF rF n (fun listed' a' w' => Region.seqB md ops (ops.size - n) n listed' = true ∧ Q a' w') (f - 1) (listed.setIfInBounds j true)) a w := by
        intro alt hB h j hj hjr
        simp only [treeB, Bool.and_eq_true, decide_eq_true_eq] at hB
        obtain ⟨⟨⟨⟨_, hf⟩, hin⟩, hB1⟩, hB2⟩ := hB
        unfold wpJ at h
        obtain ⟨h1, h2⟩ := h
        simp only [Pl.heads, List.mem_cons] at hj
        by_cases hji : j = i
        · subst hji
          refine ⟨hf, hin, fun w' hw' h0 => ?_⟩
          cases ho : ops[j]? with
          | none => simp only [ho] at h1
          | some o =>
            simp only [ho] at h1
            unfold wpOp
            simp only [ho]
            by_cases hw : Region.wanted o (yielded ops a.tmps) = true
            · rw [if_pos hw] at h1 ⊢
              exact .inl (Oper.wp_mono (fun a' w2 hk => ⟨hk.1, (wpAnyJ_tree hQ hsel hnt t _ _ _ _ (inv.set hjr hin)).1 hB1 hk.2⟩) (h1 w' hw'))
            · rw [if_neg hw] at h1 ⊢
              exact ⟨h0, wpAnyJ_later (fun _ _ _ _ hw hq => ⟨hq.1, hQ _ _ _ hw hq.2⟩) _ _ _ _ _ hw' ((wpAnyJ_tree hQ hsel hnt t _ _ _ _ (inv.set hjr hin)).1 hB1 h1)⟩
        · have hj' : j ∈ e.heads := by rcases hj with h | h; exact absurd h hji; exact h
          exact (wpAnyJ_tree hQ hsel hnt e f listed a w inv).2 hB2 h2 j hj' hjr
      refine ⟨fun hB h => ?_, alt true⟩
      have hB0 := hB
      simp only [treeB, Bool.and_eq_true, decide_eq_true_eq, Bool.false_or] at hB
      obtain ⟨⟨⟨⟨⟨hall, hne⟩, hf⟩, _⟩, _⟩, _⟩ := hB
      obtain ⟨g, rfl⟩ : ∃ g, f = g + 1 := ⟨f - 1, by omega⟩
      refine ⟨fun h0 => by rw [h0] at hne; simp at hne, fun j hj => ?_⟩
      have hjh : j ∈ (Pl.gr i t e).heads := by simpa using List.all_eq_true.1 hall j hj
      exact (alt false hB0 h j hjh hj).2
  | .nil, f, listed, a, w, _ => ⟨fun hB => by simp [treeB] at hB, fun _ _ j hj => by simp [Pl.heads] at hj⟩
theorem wp_region_inv {id : Nat} {Q : Exit → Act → World → Prop} {a : Act} {w : World} {l : List Oper} (n : Nat) (t : Pl) (hm : P.follows .mixedOrders = true)
    (hB : (Region.noSelect l.toArray && (decide (n = l.toArray.size) || (decide (n < l.toArray.size) && Region.sinkB .any l.toArray n && Region.chainB .any l.toArray n)) && treeB .any l.toArray n false n t (Array.replicate l.toArray.size false)) = true)
    (hw : Mem w oF rF) (h : wpJ P l.toArray oF rF (fun a' w' => ∀ w'', Later w' w'' → wpList P l.toArray Q (l.drop n) a' w'') t a w) : (Code.region id l.toArray true).wp P Q a w := by
  simp only [Bool.and_eq_true] at hB
  obtain ⟨⟨hsel, hn⟩, hpl⟩ := hB
  have hnle : n ≤ l.toArray.size := by
    rcases Bool.or_eq_true _ _ ▸ hn with hn | hn
    · simp only [decide_eq_true_eq] at hn; omega
    · simp only [Bool.and_eq_true, decide_eq_true_eq] at hn; omega
  have hnt : ∀ i, i < n → ∀ listed, HeadInv .any l.toArray n listed → listed.getD i true = false → ∀ j ∈ Region.ready .any l.toArray listed, j < n := by
    intro i hin listed inv hun j hj
    rcases Bool.or_eq_true _ _ ▸ hn with hn | hn
    · simp only [decide_eq_true_eq] at hn
      have := ready_lt j hj
      omega
    · simp only [Bool.and_eq_true, decide_eq_true_eq] at hn
      obtain ⟨⟨hn, hs⟩, hc⟩ := hn
      rcases Nat.lt_or_ge j n with h | h
      · exact h
      · exact absurd hj (tail_waits hs hc hn inv _ i rfl hin hun j h)
  have inv0 : HeadInv .any l.toArray n (Array.replicate l.toArray.size false) :=
    ⟨by simp, fun j oj _ hl => (by rw [getD_replicate_false] at hl; cases hl), fun t _ ht => getD_in (by simpa using ht) (getD_replicate_false _ _)⟩
  have H := (wpAnyJ_tree (P := P) (md := .any) (oF := oF) (rF := rF) (Q := fun a' w' => ∀ w'', Later w' w'' → wpList P l.toArray Q (l.drop n) a' w'') (fun a w w' hw hq w'' hw'' => hq w'' (hw.trans hw'')) hsel hnt t n _ a w inv0).1 hpl h
  refine wp_region_any hm ?_
  have hdl : (l.drop n).length = l.toArray.size - n := by simp
  have := wpAny_of_canJ (Q' := Q) (g := l.toArray.size - n) (oF := oF) (rF := rF) (fun listed a' w' _ hL => by
    have := wpAny_of_seq (md := .any) (Q' := Q) (l.drop n) n listed a' w' (fun j => by simp [List.getElem?_drop]) (by rw [hdl]; exact hL.1) (hL.2 w' (Later.refl _))
    rwa [hdl] at this) _ _ _ _ (hw.later (Later.drew w)) (wpAnyJ_later (fun _ _ _ _ hw hq => ⟨hq.1, fun w2 h2 => hq.2 w2 (hw.trans h2)⟩) _ _ _ _ _ (Later.drew w) H)
  rw [show n + (l.toArray.size - n) = l.toArray.size by omega] at this
  exact this
end
section
variable {P : Program} {n : Nat} {l : List (Nat × Value)} {own oF : List (Nat × Obj)} {ro : List Snap} {lops : List Oper} {Q : Exit → Act → World → Prop} {K : Act → World → Prop} {i d : Nat} {t e : Pl} {op : Op} {ty : TypeId} {pos : String} {af : Array Edge}
theorem rg_inv {id : Nat} {Q : Exit → Act → World → Prop} (oF : List (Nat × Obj)) (m : Nat) (t : Pl) (hsub : oF.Sublist own) (hm : P.follows .mixedOrders = true)
    (hB : (Region.noSelect lops.toArray && (decide (m = lops.toArray.size) || (decide (m < lops.toArray.size) && Region.sinkB .any lops.toArray m && Region.chainB .any lops.toArray m)) && treeB .any lops.toArray m false m t (Array.replicate lops.toArray.size false)) = true)
    (h : S (wpJ P lops.toArray oF ro (fun a' w' => ∀ w'', Later w' w'' → wpList P lops.toArray Q (lops.drop m) a' w'') t) n l own ro) : W P (.region id lops.toArray true) Q n l own ro :=
  fun a w ha hw => wp_region_inv m t hm hB (hw.less hsub (fun _ h => h)) (h a w ha hw)
theorem j_run {o : Oper} (ho : lops[i]? = some o) (hgo : Go_ lops n l o) (hd0 : o.dst = some d) (hd : decide (d < n) = true) {v : Value} (hv : OpV P n l oF ro o.op o.type v)
    (h : S (wpJ P lops.toArray oF ro K t) n ((d, v) :: l) own ro) : S (wpJ P lops.toArray oF ro K (.flt i t)) n l own ro := fun a w ha hw => by
  have hd' : d < n := of_decide_eq_true hd
  unfold wpJ
  simp only [List.getElem?_toArray, ho]
  rw [if_pos (hgo a ha)]
  refine ⟨v, fun w' hw' => ?_, by rw [hd0]; exact h _ w (ha.put v hd') hw⟩
  unfold fltAt
  rw [hv a w' _ ha hw' rfl rfl]
  exact ⟨rfl, rfl⟩
theorem j_val (ho : lops[i]? = some ⟨some d, op, ty, pos, af, none⟩) (hd : decide (d < n) = true) {v : Value} (hv : OpV P n l oF ro op ty v)
    (h : S (wpJ P lops.toArray oF ro K t) n ((d, v) :: l) own ro) : S (wpJ P lops.toArray oF ro K (.flt i t)) n l own ro := j_run ho (go_none rfl) rfl hd hv h
theorem j_gr (h : WX P lops.toArray (fun _ _ _ => False) (fun a w => Mem w oF ro ∧ wpJ P lops.toArray oF ro K t a w) [(none, i)] n l own ro) (he : S (wpJ P lops.toArray oF ro K e) n l own ro) : S (wpJ P lops.toArray oF ro K (.gr i t e)) n l own ro := fun a w ha hw => by
  have h := h a w ha hw
  unfold wpJ
  refine ⟨?_, he a w ha hw⟩
  simp only [wpX] at h
  split <;> rename_i ho <;> simp only [ho] at h
  split <;> rename_i hw'
  · intro w2 h2
    have h := h w2 h2
    rw [if_pos hw'] at h
    exact Oper.wp_mono (fun a' w' hk => hk w' (Later.refl _)) h
  · have h := h w (Later.refl _)
    rw [if_neg hw'] at h
    exact (h w (Later.refl _)).2
theorem j_end (hsub : oF.Sublist own) (h : S (wpJ P lops.toArray oF ro K t) n l own ro) : S (fun a w => Mem w oF ro ∧ wpJ P lops.toArray oF ro K t a w) n l own ro := fun a w ha hw => ⟨hw.less hsub (fun _ h => h), h a w ha hw⟩
theorem j_nil : S (wpJ P lops.toArray oF ro K .nil) n l own ro := fun _ _ _ _ => trivial
theorem j_done {m : Nat} (h : WX P lops.toArray Q (fun a w => Q .normal a w) (tailFrom m lops.length) n l own ro) :
    S (wpJ P lops.toArray oF ro (fun a' w' => ∀ w'', Later w' w'' → wpList P lops.toArray Q (lops.drop m) a' w'') .done) n l own ro :=
  fun a w ha hw w2 h2 => wpList_of_X _ m a w2 rfl (wpX_later h2 (h a w ha hw))
end
end Go.PK

namespace Go.PK
open Go Go.RowKit
def serC (p : Pat) (r1 r2 R : RowS) (n : Nat) : List Value := [.int .i64 p.first, .int .i64 p.days, rowV r1 p.lv.length, rowV r2 p.st.length, rowV R n]
structure SerOK (p : Pat) (es : List Ent) (r1 r2 R : RowS) : Prop where
  fst : in64 p.first
  dys : in64 p.days
  lvs : rowOK 1 r1 p.lv.length (p.lv.map (Value.int .i64))
  lin : ∀ d ∈ p.lv, in64 d
  sts : rowOK 1 r2 p.st.length (p.st.map (Value.int .i64))
  sin : ∀ d ∈ p.st, in64 d
  ent : rowOK 4 R es.length (entsC es)
  ein : ∀ x ∈ es, entIn x
theorem SerOK.with {p : Pat} {es es' : List Ent} {r1 r2 R R' : RowS} (h : SerOK p es r1 r2 R) (h1 : rowOK 4 R' es'.length (entsC es')) (h2 : ∀ x ∈ es', entIn x) : SerOK p es' r1 r2 R' := ⟨h.fst, h.dys, h.lvs, h.lin, h.sts, h.sin, h1, h2⟩
end Go.PK

namespace Go.PK
open Go Go.RowKit
def entOK (x : Ent) : Prop := 0 ≤ x.fr ∧ x.fr ≤ x.to ∧ x.to < 100000 ∧ x.to - x.fr < 100 ∧ okDay x.day
def heldJ (p : Pat) (x : Ent) (j : Nat) : List Iss := (List.range j).map fun i => ⟨numsP p (x.fr + (i : Nat)), x.day⟩
def heldE (p : Pat) (x : Ent) : List Iss := if x.sk then [] else heldJ p x (x.to - x.fr + 1).toNat
def heldP (p : Pat) (es : List Ent) : List Iss := es.flatMap (heldE p)
theorem heldJ_succ (p : Pat) (x : Ent) (j : Nat) : heldJ p x (j + 1) = heldJ p x j ++ [⟨numsP p (x.fr + (j : Nat)), x.day⟩] := by unfold heldJ; rw [List.range_succ, List.map_append]; rfl
theorem heldJ_len (p : Pat) (x : Ent) (j : Nat) : (heldJ p x j).length = j := by simp [heldJ]
theorem heldP_snoc {p : Pat} {es : List Ent} {k : Nat} (h : k < es.length) : heldP p (es.take (k + 1)) = heldP p (es.take k) ++ heldE p es[k] := by
  unfold heldP; rw [List.take_succ_eq_append_getElem h, List.flatMap_append, List.flatMap_singleton]
theorem heldE_len {p : Pat} {x : Ent} (h : entOK x) : (heldE p x).length ≤ 100 := by
  obtain ⟨h1, h2, h3, h4, _⟩ := h
  unfold heldE
  split
  · exact Nat.zero_le _
  · rw [heldJ_len]; omega
theorem heldP_len {p : Pat} {es : List Ent} (h : ∀ x ∈ es, entOK x) : ∀ k, (heldP p (es.take k)).length ≤ 100 * k
  | 0 => by simp [heldP]
  | k + 1 => by
    have ih := heldP_len (p := p) h k
    by_cases hk : k < es.length
    · rw [heldP_snoc hk, List.length_append]
      have := heldE_len (p := p) (h _ (List.getElem_mem hk))
      omega
    · rw [List.take_of_length_le (by omega)]
      rw [List.take_of_length_le (by omega)] at ih
      omega
theorem entOK.in {x : Ent} (h : entOK x) : entIn x := by
  obtain ⟨h1, h2, h3, h4, h5⟩ := h
  unfold okDay at h5
  exact ⟨by unfold in64; omega, by unfold in64; omega, by unfold in64; omega⟩
structure SerRd (w : World) (b : Nat) (p : Pat) (es : List Ent) (v1 v2 v3 : Value) : Prop where
  cells : ∀ j (hj : j < [Value.int .i64 p.first, Value.int .i64 p.days, v1, v2, v3].length), w.cell? ⟨b, j, none⟩ = some [Value.int .i64 p.first, Value.int .i64 p.days, v1, v2, v3][j]
  lvs : sliceRd tyI (fun _ => True) w v1 p.lv
  sts : sliceRd tyI (fun _ => True) w v2 p.st
  fst : in64 p.first
  dys : in64 p.days
  ent : sliceRd tyEnt (fun _ => True) w v3 es
theorem SerOK.rd {p : Pat} {es : List Ent} {r1 r2 R : RowS} (h : SerOK p es r1 r2 R) {w : World} {own : List (Nat × Obj)} {ro : List Snap} {b : Nat} {e e1 e2 : TypeId} (hm : Mem w own ro) (hb : (b, Obj.cells (serC p r1 r2 R es.length).toArray e (0, 0)) ∈ own)
    (h1 : ∀ q ∈ rowO e1 r1, q ∈ own) (h2 : ∀ q ∈ rowO e1 r2, q ∈ own) (h3 : ∀ q ∈ rowO e2 R, q ∈ own) : SerRd w b p es (rowV r1 p.lv.length) (rowV r2 p.st.length) (rowV R es.length) where
  cells := fun j hj => by
    have := hm.cell_own hb j
    rw [this, List.getElem?_toArray]
    exact List.getElem?_eq_getElem (l := serC p r1 r2 R es.length) hj
  lvs := rowI_rd (e := e1) h.lvs rfl h.lin hm h1 (fun _ _ => trivial)
  sts := rowI_rd (e := e1) h.sts rfl h.sin hm h2 (fun _ _ => trivial)
  fst := h.fst
  dys := h.dys
  ent := ents_rd (e := e2) h.ent rfl h.ein hm h3 (fun _ _ => trivial)
theorem SerRd.keep {w w' : World} {b : Nat} {p : Pat} {es : List Ent} {v1 v2 v3 : Value} (h : SerRd w b p es v1 v2 v3) (hl : Later w w') : SerRd w' b p es v1 v2 v3 :=
  ⟨fun j hj => (hl.cell (p := ⟨b, j, none⟩) (cell_lt (h.cells j hj))).trans (h.cells j hj), h.lvs.keep (Kept.later hl), h.sts.keep (Kept.later hl), h.fst, h.dys, h.ent.keep (Kept.later hl)⟩
end Go.PK

namespace Go.PK
open Go Go.RowKit
theorem sliceRd.drop1 {α : Type} {T : Ty α} {D : Nat → Prop} {w : World} {A : Option Addr} {l c : Nat} {x : α} {xs : List α} (h : sliceRd T D w (.slice A l c) (x :: xs)) :
    sliceRd T D w (.slice (if c = 1 then A else A.map (fun a => a.add (1 * T.size))) (l - 1) (c - 1)) xs := by
  obtain ⟨A', c', e, h1, h2, h3⟩ := h
  injection e with e1 e2 e3
  subst e1 e2 e3
  rw [List.length_cons] at h1 h2 ⊢
  refine ⟨_, _, by rw [Nat.add_sub_cancel], by omega, by omega, fun h0 => ?_⟩
  rw [if_neg (by omega)]
  obtain ⟨b, off, rfl, hD, hb, hc⟩ := h3 (by simp)
  refine ⟨b, off + 1 * T.size, by rw [Option.map_some, mk_add], hD, hb, fun j hj => ?_⟩
  obtain ⟨cs, hcs, hr⟩ := hc (j + 1) (by simpa using hj)
  refine ⟨cs, fun i hi => ?_, by simpa using hr⟩
  have := hcs i hi
  rw [show off + (j + 1) * T.size + i = off + 1 * T.size + j * T.size + i by rw [Nat.add_mul]; omega] at this
  exact this
def missF (p : Pat) (d last day : Int) : Nat → Int → List Ent → Nat → List Iss
  | 0, _, _, _ => []
  | f + 1, k, l, n => if k < 100000 ∧ n < 1000 then
      (match l with
       | [] => if p.first + k * p.days + (if k > last then d else 0) > day then [] else ⟨numsP p k, p.first + k * p.days + (if k > last then d else 0)⟩ :: missF p d last day f (k + 1) [] (n + 1)
       | e :: r => if k ≥ e.fr then missF p d last day f (e.to + 1) r n else
          if p.first + k * p.days + (if k > last then d else 0) > day then [] else ⟨numsP p k, p.first + k * p.days + (if k > last then d else 0)⟩ :: missF p d last day f (k + 1) (e :: r) (n + 1))
    else []
def missMu (k : Int) (l : List Ent) : Nat := (100000 - k).toNat + l.length * 200000 + 1
end Go.PK

namespace Go.PK
open Go Go.RowKit
section
variable {P : Program} {n : Nat} {l : List (Nat × Value)} {own : List (Nat × Obj)} {ro : List Snap} {ty t t' : TypeId} {x y : Operand}
theorem v_ieq {td : TypeDesc} {v : Value} {b : Bool} (ht : P.underlying t = some td) (hi : (match td with | .interface _ => true | _ => false) = true) (hx : ev l x = some v) (hv : isIface v b) : OpV P n l own ro (.binOp .eql t x (.const .nilIface) t') ty (.bool (!b)) := by
  intro A w o ha _ ho _
  have e : A.eval (.const .nilIface) = .nilIface := rfl
  cases td <;> simp at hi
  rcases hv with ⟨rfl, rfl⟩ | ⟨⟨d, u, rfl⟩, rfl⟩
  · have h : ∀ d : Nat, (Op.equalIn (d + 1) t .nilIface .nilIface).run P w = .ok true w := fun d => by simp [Op.equalIn, run_underlying ht]
    have h2 : (Op.equal t .nilIface .nilIface).run P w = .ok true w := h 9999
    simp [execOp, ho, ha.eval hx, e, eqGuard, binOp, h2]
  · have h : ∀ q : Nat, (Op.equalIn (q + 1) t (.iface d u) .nilIface).run P w = .ok false w := fun q => by simp [Op.equalIn, run_underlying ht]
    have h2 : (Op.equal t (.iface d u) .nilIface).run P w = .ok false w := h 9999
    simp [execOp, ho, ha.eval hx, e, eqGuard, binOp, h2]
end
def sEvery : ByteArray := ⟨#[101, 118, 101, 114, 121, 32]⟩
def sFrom : ByteArray := ⟨#[32, 102, 114, 111, 109, 32]⟩
def sColon : ByteArray := ⟨#[58, 32]⟩
def sComma : ByteArray := ⟨#[44, 32]⟩
noncomputable def wrTo (p : Pat) : Nat → ByteArray
  | 0 => sEvery ++ itoaS p.days ++ sFrom ++ textR p.first ++ sColon ++ itoaS (p.st.getD 0 0)
  | k + 1 => wrTo p k ++ (sComma ++ itoaS (p.st.getD (k + 1) 0) ++ slash ++ itoaS (p.lv.getD (k + 1) 0))
noncomputable def writeQ (p : Pat) : ByteArray := if rightQ p then wrTo p (p.lv.length - 1) else ⟨#[]⟩
theorem textR_sz (n : Int) : (textR n).size ≤ 10 := by
  unfold textR
  split
  · simp only [ByteArray.size_append, lowD_size]; decide
  · decide
theorem wrTo_sz (p : Pat) (hs : ∀ d ∈ p.st, in64 d) (hl : ∀ d ∈ p.lv, in64 d) (hd : in64 p.days) (he : p.st.length = p.lv.length) (h1 : 1 ≤ p.lv.length) : ∀ k, k < p.lv.length → (wrTo p k).size ≤ 100 + 100 * k
  | 0, _ => by
    have a := itoaS_size hd
    have b := itoaS_size (hs _ (by rw [getD_lt (show 0 < p.st.length by omega)]; exact List.getElem_mem _) : in64 (p.st.getD 0 0))
    have c := textR_sz p.first
    have d1 : sEvery.size = 6 := rfl
    have d2 : sFrom.size = 6 := rfl
    have d3 : sColon.size = 2 := rfl
    unfold wrTo
    simp only [ByteArray.size_append]
    omega
  | k + 1, hk => by
    have ih := wrTo_sz p hs hl hd he h1 k (by omega)
    have a := itoaS_size (hs _ (by rw [getD_lt (show k + 1 < p.st.length by omega)]; exact List.getElem_mem _) : in64 (p.st.getD (k + 1) 0))
    have b := itoaS_size (hl _ (by rw [getD_lt (show k + 1 < p.lv.length by omega)]; exact List.getElem_mem _) : in64 (p.lv.getD (k + 1) 0))
    have d1 : sComma.size = 2 := rfl
    have d2 : slash.size = 1 := rfl
    unfold wrTo
    simp only [ByteArray.size_append]
    omega
def pcS (i : Nat) (x : ByteArray) : ByteArray := if 0 < i then (cutG x slash).1 else x
def pcL (i : Nat) (x : ByteArray) : ByteArray := if 0 < i then (cutG x slash).2.1 else ⟨#[48]⟩
def atoiB (x : ByteArray) : Bool := match Lib.atoiAll (bl x) with | .ok _ => true | _ => false
theorem atoiB_case {x : ByteArray} {n : Int} {b : Bool} (h1 : b = false → Lib.atoiAll (bl x) = .ok n) (h2 : b = true → ∀ v, Lib.atoiAll (bl x) ≠ .ok v) : atoiB x = !b ∧ (b = false → n = atoiV x) := by
  unfold atoiB atoiV
  cases b with
  | true =>
    refine ⟨?_, fun h => by cases h⟩
    cases hq : Lib.atoiAll (bl x) with
    | ok v => exact absurd hq (h2 rfl v)
    | _ => rfl
  | false => rw [h1 rfl]; exact ⟨rfl, fun _ => rfl⟩
def rdC1 (s : ByteArray) := cutG s sEvery
def rdC2 (s : ByteArray) := cutG (rdC1 s).2.1 sFrom
def rdC3 (s : ByteArray) := cutG (rdC2 s).2.1 sColon
def rdPs (s : ByteArray) : List ByteArray := splitG (rdC3 s).2.1 sComma
def rdF (s : ByteArray) : Nat → Bool
  | 0 => (rdC1 s).2.2 && (rdC2 s).2.2 && atoiB (rdC2 s).1 && (rdC3 s).2.2
  | k + 1 => rdF s k && atoiB (pcS k ((rdPs s).getD k ⟨#[]⟩)) && atoiB (pcL k ((rdPs s).getD k ⟨#[]⟩))
def rdS (s : ByteArray) (k : Nat) : List Int := (List.range k).map fun i => atoiV (pcS i ((rdPs s).getD i ⟨#[]⟩))
def rdL (s : ByteArray) (k : Nat) : List Int := (List.range k).map fun i => atoiV (pcL i ((rdPs s).getD i ⟨#[]⟩))
theorem rdS_succ (s : ByteArray) (k : Nat) : rdS s (k + 1) = rdS s k ++ [atoiV (pcS k ((rdPs s).getD k ⟨#[]⟩))] := by unfold rdS; rw [List.range_succ, List.map_append]; rfl
theorem rdL_succ (s : ByteArray) (k : Nat) : rdL s (k + 1) = rdL s k ++ [atoiV (pcL k ((rdPs s).getD k ⟨#[]⟩))] := by unfold rdL; rw [List.range_succ, List.map_append]; rfl
def zeroPat : Pat := ⟨0, 0, [], []⟩
end Go.PK

namespace Go.PK
open Go Go.RowKit
def exP : Pat := ⟨19723, 30, [0, 12], [12, 11]⟩
def exT : ByteArray := ⟨#[101, 118, 101, 114, 121, 32, 51, 48, 32, 102, 114, 111, 109, 32, 50, 48, 50, 52, 45, 48, 49, 45, 48, 49, 58, 32, 49, 50, 44, 32, 49, 49, 47, 49, 50]⟩
def exE1 : List Ent := [⟨1, 2, false, 19790⟩]
def exE2 : List Ent := [⟨0, 0, true, 19800⟩, ⟨1, 2, false, 19790⟩]
theorem ex_right : rightQ exP := by decide +kernel
theorem ex_num : numP exP [13, 2] = some 3 := by decide +kernel
theorem ex_t1 : takeQ exP [] ⟨#[49, 50, 47, 49, 50, 45, 49, 51, 47, 49]⟩ 19790 = (exE1, 0) := by decide +kernel
theorem ex_t2 : takeQ exP exE1 ⟨#[120, 49, 50, 47, 49, 49]⟩ 19800 = (exE2, 0) := by decide +kernel
theorem ex_t3 : takeQ exP exE2 ⟨#[49, 51, 47, 49]⟩ 19800 = (exE2, 22) := by decide +kernel
theorem ex_t4 : takeQ exP exE2 ⟨#[49, 50, 47, 49, 51]⟩ 19800 = (exE2, 32) := by decide +kernel
theorem ex_t5 : takeQ exP exE2 ⟨#[49, 50, 47, 48, 49, 49]⟩ 19800 = (exE2, 11) := by decide +kernel
theorem ex_held : heldP exP exE2 = [⟨[12, 12], 19790⟩, ⟨[13, 1], 19790⟩] := by decide +kernel
theorem ex_dly : missF exP 37 2 19850 (missMu 0 exE1) 0 exE1 0 = [⟨[12, 11], 19723⟩, ⟨[13, 2], 19850⟩] := by decide +kernel
theorem ex_pred : predP exP 4 = [⟨[12, 11], 19723⟩, ⟨[12, 12], 19753⟩, ⟨[13, 1], 19783⟩, ⟨[13, 2], 19813⟩] := by decide +kernel
theorem ex_f : rdF exT (rdPs exT).length = true := by decide +kernel
theorem ex_c3 : (rdC3 exT).1 = ⟨#[50, 48, 50, 52, 45, 48, 49, 45, 48, 49]⟩ := by decide +kernel
theorem ex_l : rdL exT (rdPs exT).length = [0, 12] ∧ rdS exT (rdPs exT).length = [12, 11] ∧ atoiV (rdC2 exT).1 = 30 := by decide +kernel
end Go.PK

namespace Go.PK
open Go Go.RowKit
section
variable {P : Program} {n : Nat} {l : List (Nat × Value)} {own : List (Nat × Obj)} {ro : List Snap} {lops : List Oper} {Q : Exit → Act → World → Prop} {K : Act → World → Prop}
  {rest : List (Option Bool × Nat)} {k : Option Bool} {i d j dj : Nat} {want : Bool} {op : Op} {ty : TypeId} {pos : String} {af : Array Edge}
theorem x_valg (ho : lops[i]? = some ⟨some d, op, ty, pos, af, some (j, want)⟩) (hj : (lops[j]?).bind (·.dst) = some dj) (hb : l.lookup dj = some (.bool want)) (hk : k.getD true = true) (hd : decide (d < n) = true) {v : Value} (hv : OpV P n l own ro op ty v)
    (h : WX P lops.toArray Q K rest n ((d, v) :: l) own ro) : WX P lops.toArray Q K ((k, i) :: rest) n l own ro := x_run ho (go_some rfl hj hb) rfl hk hd hv h
theorem x_boolg (ho : lops[i]? = some ⟨some d, op, ty, pos, af, some (j, want)⟩) (hj : (lops[j]?).bind (·.dst) = some dj) (hb : l.lookup dj = some (.bool want)) (hk : k.getD true = true) (hd : decide (d < n) = true) {b : Bool} (hv : OpV P n l own ro op ty (.bool b))
    (h : ∀ c, c = b → WX P lops.toArray Q K rest n ((d, .bool c) :: l) own ro) : WX P lops.toArray Q K ((k, i) :: rest) n l own ro := x_run ho (go_some rfl hj hb) rfl hk hd hv (h b rfl)
theorem x_callvg {f : FuncId} {fn : Func} {xs : Array Operand} {tys : Array TypeId} {vs : List Value} (ho : lops[i]? = some ⟨some d, .call ⟨.value (.func f), xs, tys⟩, ty, pos, af, some (j, want)⟩) (hj : (lops[j]?).bind (·.dst) = some dj) (hb : l.lookup dj = some (.bool want)) (hk : k.getD true = true) (hd : decide (d < n) = true)
    (hf : P.funcs[f]? = some fn) (hbody : (!(fn.name == "runtime.NumGoroutine") && fn.body.isSome) = true) (hx : evs l xs.toList = some vs) {v : Value}
    (hc : ∀ w, Mem w own ro → Calls P f vs.toArray w fun e w' => e = .returned v ∧ Later w w')
    (h : WX P lops.toArray Q K rest n ((d, v) :: l) own ro) : WX P lops.toArray Q K ((k, i) :: rest) n l own ro :=
  x_callv_core (fst := #[]) (cap := #[]) ho (go_some rfl hj hb) rfl rfl hk hd rfl hf hbody hx (by simpa using hc) h
theorem x_callbg {f : FuncId} {fn : Func} {xs : Array Operand} {tys : Array TypeId} {vs : List Value} (ho : lops[i]? = some ⟨some d, .call ⟨.value (.func f), xs, tys⟩, ty, pos, af, some (j, want)⟩) (hj : (lops[j]?).bind (·.dst) = some dj) (hb : l.lookup dj = some (.bool want)) (hk : k.getD true = true) (hd : decide (d < n) = true)
    (hf : P.funcs[f]? = some fn) (hbody : (!(fn.name == "runtime.NumGoroutine") && fn.body.isSome) = true) (hx : evs l xs.toList = some vs) {b : Bool}
    (hc : ∀ w, Mem w own ro → Calls P f vs.toArray w fun e w' => e = .returned (.bool b) ∧ Later w w')
    (h : ∀ c, c = b → WX P lops.toArray Q K rest n ((d, .bool c) :: l) own ro) : WX P lops.toArray Q K ((k, i) :: rest) n l own ro := x_callvg ho hj hb hk hd hf hbody hx hc (h b rfl)
theorem x_turng {τ : Type} {f : FuncId} {fn : Func} {xs : Array Operand} {tys : Array TypeId} {vs : List Value} {v : Value} (R : τ → Prop) (O : τ → List (Nat × Obj)) (ho : lops[i]? = some ⟨some d, .call ⟨.value (.func f), xs, tys⟩, ty, pos, af, some (j, want)⟩) (hj : (lops[j]?).bind (·.dst) = some dj) (hb : l.lookup dj = some (.bool want)) (hd : decide (d < n) = true)
    (hf : P.funcs[f]? = some fn) (hbody : (!(fn.name == "runtime.NumGoroutine") && fn.body.isSome) = true) (hx : evs l xs.toList = some vs)
    (hc : ∀ w, Mem w own ro → Calls P f vs.toArray w fun e w' => e = .returned v ∧ ∃ x, R x ∧ Mem w' (O x) ro)
    (h : ∀ x, R x → WX P lops.toArray Q K rest n ((d, v) :: l) (O x) ro) : WX P lops.toArray Q K ((none, i) :: rest) n l own ro := by
  intro a w ha hw
  have hd' : d < n := of_decide_eq_true hd
  have hw1 := go_some (lops := lops) (n := n) (l := l) (o := ⟨some d, .call ⟨.value (.func f), xs, tys⟩, ty, pos, af, some (j, want)⟩) rfl hj hb a ha
  simp only [wpX, List.getElem?_toArray, ho]
  intro w' hl
  rw [if_pos hw1]
  unfold Oper.wp
  have hc' : ∀ w, Mem w own ro → Calls P f ((#[] : Array Value) ++ vs.toArray ++ #[]) w fun e w' => e = .returned v ∧ ∃ x, R x ∧ Mem w' (O x) ro := by simpa using hc
  rw [run_callv (fst := #[]) (cap := #[]) rfl ha rfl hf hbody hx]
  refine Calls.mono (hc' w' (hw.later hl)) fun e w2 he => ?_
  obtain ⟨rfl, x, hr, hm⟩ := he
  exact h x hr _ w2 (ha.put v hd') hm
end
end Go.PK

namespace Go.PK
open Go Go.RowKit
end Go.PK

namespace Go.PK
open Go Go.RowKit
section
variable {P : Program} {n : Nat} {l : List (Nat × Value)} {own : List (Nat × Obj)} {ro : List Snap} {Q : Exit → Act → World → Prop} {K : Act → World → Prop} {R : Ending → World → Prop} {fn : Func}
theorem retct {t u : Tmp} {ty : TypeId} {td : TypeDesc} {b : Nat} {cs : Array Value} {e : TypeId} {fz : Nat × Nat} {v : Value} (hr : fn.results = #[.cell t ty, .tmp u]) (hv : l.lookup t = some (.pointer (some ⟨b, 0, none⟩))) (hu : l.lookup u = some v) (hb : (b, Obj.cells cs e fz) ∈ own)
    (ht : P.underlying ty = some td) (hd : aggT td = true) (hs : (P.info? ty).map (·.size) = some cs.size) (h : ∀ w', Mem w' own ro → R (.returned (.tuple #[.agg cs, v])) w') : S (bodyPost P fn R .ret) n l own ro := by
  intro a w ha hw
  refine ⟨ha.df, _, ?_, h w hw⟩
  have h1 := ha.at_ t _ hv
  have h2 := ha.at_ u _ hu
  rw [results_cell_tmp hr, show a.tmps.getD t undef = .pointer (some ⟨b, 0, none⟩) by simp [Array.getD_eq_getD_getElem?, h1], show a.tmps.getD u undef = v by simp [Array.getD_eq_getD_getElem?, h2]]
  simp [asAddr, run_loadVar_row w b e ty cs fz td (hw.own_at _ hb) ht (by cases td <;> simp_all [aggT]) hs]
end
end Go.PK

namespace Go.PK
open Go Go.RowKit
theorem RowT.any {α : Type} {T : Ty α} {D' : Nat → Prop} {w wx : World} {own : List (Nat × Obj)} {ro : List Snap} {e : TypeId} {r : RowS} {xs : List α} {v : Nat} (h : RowT T (fun _ => False) wx r xs) (hm : Mem w own ro) (hin : ∀ p ∈ rowO e r, p ∈ own) (hD : ∀ p ∈ rowO e r, D' p.1) (hv : v = xs.length) : sliceRd T D' w (rowV r v) xs :=
  RowT.rd (D := fun _ => False) (w := w) (h.keep (fun k hk _ => hk.elim)) hm hin (fun _ hx => hx.elim) hD hv
end Go.PK

namespace Go.PK
open Go Go.RowKit
end Go.PK

namespace Go.PK
open Go Go.RowKit
end Go.PK

namespace Go.PK
open Go Go.RowKit
section
variable {P : Program} {n : Nat} {l : List (Nat × Value)} {own : List (Nat × Obj)} {ro : List Snap} {lops : List Oper} {Q : Exit → Act → World → Prop} {K : Act → World → Prop}
  {rest : List (Option Bool × Nat)} {k : Option Bool} {i d : Nat} {op : Op} {ty : TypeId} {pos : String} {af : Array Edge} {x y z' : Operand} {t : TypeId}
end
end Go.PK

namespace Go.PK
open Go Go.RowKit
end Go.PK

namespace Go.PK
open Go Go.RowKit
theorem Mem.join2 {w1 w2 : World} {own1 own2 : List (Nat × Obj)} {ro : List Snap} (h1 : Mem w1 own1 ro) (h2 : Mem w2 own2 [(w1, fun _ => True)]) : Mem w2 (own2 ++ own1) ro where
  own_at := fun p hp => by
    rcases List.mem_append.1 hp with hp | hp
    · exact h2.own_at p hp
    · exact (h2.ro_at _ (.head _) p.1 trivial (h1.lt hp)).trans (h1.own_at p hp)
  own_nd := by
    rw [List.map_append, List.nodup_append]
    refine ⟨h2.own_nd, h1.own_nd, fun a ha b hb e => ?_⟩
    obtain ⟨p, hp, rfl⟩ := List.mem_map.1 ha
    obtain ⟨q, hq, rfl⟩ := List.mem_map.1 hb
    have a1 := h2.apart p hp _ (.head _) trivial
    have a2 := h1.lt hq
    simp only at a1; omega
  ro_st := (h1.join h2).ro_st
  ro_at := (h1.join h2).ro_at
  apart := fun p hp s hs hd => by
    rcases List.mem_append.1 hp with hp | hp
    · exact (h1.join h2).apart p hp s hs hd
    · exact h1.apart p hp s hs hd
end Go.PK

namespace Go.PK
open Go Go.RowKit
def isC (L : List (Nat × List Int × Int)) : List Value := (L.map fun x => [Value.slice (some ⟨x.1, 0, none⟩) x.2.1.length x.2.1.length, Value.int .i64 x.2.2]).flatten
theorem iss_row {w : World} {own : List (Nat × Obj)} {ro : List Snap} (hm : Mem w own ro) {b : Nat} {e e' : TypeId} (L : List (Nat × List Int × Int)) (hb : (b, Obj.cells (isC L).toArray e (0, 0)) ∈ own)
    (hr : ∀ x ∈ L, (x.1, Obj.cells (x.2.1.map (Value.int .i64)).toArray e' (0, 0)) ∈ own) (hin : ∀ x ∈ L, (∀ d ∈ x.2.1, in64 d) ∧ in64 x.2.2 ∧ x.2.1.length ≤ maxLen) (hl : L.length ≤ 1000) :
    sliceRd tyIss (fun _ => True) w (.slice (some ⟨b, 0, none⟩) L.length L.length) (L.map fun x => (⟨x.2.1, x.2.2⟩ : Iss)) := by
  have hlt := hm.lt hb
  refine ⟨_, L.length, by rw [List.length_map], by rw [List.length_map]; exact Nat.le_refl _, by rw [List.length_map]; omega, fun _ => ⟨b, 0, rfl, trivial, hlt, fun j hj => ?_⟩⟩
  have hj' : j < L.length := by simpa using hj
  obtain ⟨i1, i2, i3⟩ := hin _ (List.getElem_mem hj')
  refine ⟨[Value.slice (some ⟨L[j].1, 0, none⟩) L[j].2.1.length L[j].2.1.length, Value.int .i64 L[j].2.2], fun i hi => ?_, Value.slice (some ⟨L[j].1, 0, none⟩) L[j].2.1.length L[j].2.1.length, by simp, ?_, by simpa using i2⟩
  · have hc := hm.cell_own hb (0 + j * 2 + i)
    show w.cell? ⟨b, 0 + j * 2 + i, none⟩ = _
    rw [hc, List.getElem?_toArray, Nat.zero_add]
    unfold isC
    rw [flatten_get (m := 2) _ (fun k hk => by rw [List.getElem_map]; rfl) j (by simpa using hj') i hi, List.getElem_map]
    exact List.getElem?_eq_getElem hi
  · have h := hr _ (List.getElem_mem hj')
    have hrow : rowOK 1 (some (L[j].1, L[j].2.1.map (Value.int .i64), L[j].2.1.length)) L[j].2.1.length (L[j].2.1.map (Value.int .i64)) := rowOK_lit (by simp) i3
    have := rowI_rd (D := fun _ => True) (e := e') hrow rfl i1 hm (fun p hp => by rw [show p = _ from List.mem_singleton.1 hp]; exact h) (fun _ _ => trivial)
    simp only [List.getElem_map]
    exact this
theorem num_row {w : World} {own : List (Nat × Obj)} {ro : List Snap} (hm : Mem w own ro) {b : Nat} {e : TypeId} (ns : List Int) (hb : (b, Obj.cells (ns.map (Value.int .i64)).toArray e (0, 0)) ∈ own) (hin : ∀ d ∈ ns, in64 d) (hl : ns.length ≤ maxLen) :
    sliceRd tyI (fun _ => True) w (.slice (some ⟨b, 0, none⟩) ns.length ns.length) ns :=
  rowI_rd (D := fun _ => True) (e := e) (r := some (b, ns.map (Value.int .i64), ns.length)) (rowOK_lit (by simp) hl) rfl hin hm (fun p hp => by rw [show p = _ from List.mem_singleton.1 hp]; exact hb) (fun _ _ => trivial)
end Go.PK

namespace Go.PK
open Go Go.RowKit
theorem sliceRd.dropN {α : Type} {T : Ty α} {D : Nat → Prop} {w : World} {A : Option Addr} {l c : Nat} {xs : List α} (i : Nat) (hi : i ≤ l) (h : sliceRd T D w (.slice A l c) xs) :
    sliceRd T D w (.slice (if c = i then A else A.map (fun a => a.add (i * T.size))) (l - i) (c - i)) (xs.drop i) := by
  obtain ⟨A', c', e, h1, h2, h3⟩ := h
  injection e with e1 e2 e3
  subst e1 e2 e3
  refine ⟨_, _, by rw [List.length_drop], by rw [List.length_drop]; omega, by rw [List.length_drop]; omega, fun h0 => ?_⟩
  rw [List.length_drop] at h0
  rw [if_neg (by omega)]
  obtain ⟨b, off, rfl, hD, hb, hc⟩ := h3 (by omega)
  refine ⟨b, off + i * T.size, by rw [Option.map_some, mk_add], hD, hb, fun j hj => ?_⟩
  rw [List.length_drop] at hj
  obtain ⟨cs, hcs, hr⟩ := hc (i + j) (by omega)
  refine ⟨cs, fun k hk => ?_, by rw [List.getElem_drop]; exact hr⟩
  have := hcs k hk
  rw [show off + (i + j) * T.size + k = off + i * T.size + j * T.size + k by rw [Nat.add_mul]; omega] at this
  exact this
end Go.PK

namespace Go.PK
open Go Go.RowKit
end Go.PK

namespace Go.PK
open Go Go.RowKit
theorem bl_inj {a b : ByteArray} (h : bl a = bl b) : a = b := by rw [← bl_str a, h, bl_str]
def digP (l : List UInt8) : List UInt8 := (l.takeWhile digB8).take 8
def valR (s : ByteArray) (i : Nat) : Int × Nat × Bool :=
  if canonL (digP ((bl s).drop i)) ∧ (digP ((bl s).drop i)).length ≤ 7 then (((numF (digP ((bl s).drop i)) 0 : Nat) : Int), i + (digP ((bl s).drop i)).length, true) else (0, i + (digP ((bl s).drop i)).length, false)
end Go.PK

namespace Go.PK
open Go Go.RowKit
section
variable (rd : ByteArray → Int × Int)
end
end Go.PK

namespace Go.PK
open Go Go.RowKit
theorem itoaS_small {n : Int} (h0 : 0 ≤ n) (h : n < 10) : itoaS n = ⟨#[UInt8.ofNat (48 + (n % 10).toNat)]⟩ := by
  apply bl_inj
  rw [itoaS_nn h0, dec_small (by omega), show (n % 10).toNat = n.toNat by omega]; rfl
theorem itoaS_big {n : Int} (h : 10 ≤ n) : itoaS n = itoaS (n / 10) ++ ⟨#[UInt8.ofNat (48 + (n % 10).toNat)]⟩ := by
  apply bl_inj
  rw [bl_app, itoaS_nn (by omega), itoaS_nn (by omega), dec_big (by omega), show n.toNat / 10 = (n / 10).toNat by omega, show n.toNat % 10 = (n % 10).toNat by omega]; rfl
end Go.PK

namespace Go.PK
open Go Go.RowKit
theorem Mem.made1 {w w' : World} {own : List (Nat × Obj)} {ro : List Snap} (hm : Mem w own ro) (hl : Later w w') {g : Nat} {o : Obj} (hg : w.heap.size ≤ g) (ho : w'.heap[g]? = some o) : Mem w' ((g, o) :: own) ro where
  own_at := fun p hp => by
    rcases List.mem_cons.1 hp with rfl | hp
    · exact ho
    · exact (hm.later hl).own_at p hp
  own_nd := by
    simp only [List.map_cons, List.nodup_cons]
    refine ⟨fun h => ?_, hm.own_nd⟩
    obtain ⟨p, hp, he⟩ := List.mem_map.1 h
    have := hm.lt hp
    omega
  ro_st := (hm.later hl).ro_st
  ro_at := (hm.later hl).ro_at
  apart := fun p hp s hs hd => by
    rcases List.mem_cons.1 hp with rfl | hp
    · exact Nat.le_trans (hm.ro_st s hs).2.2.2 hg
    · exact hm.apart p hp s hs hd
theorem Mem.ofRow {w w' : World} {own : List (Nat × Obj)} {ro : List Snap} {e : TypeId} {size n B : Nat} {v : Value} {xs : List Value} (hm : Mem w own ro) (hl : Later w w') (hB : w.heap.size ≤ B) (h : w'.ownsRow B e size v n xs) :
    ∃ r, v = rowV r n ∧ rowOK size r n xs ∧ Mem w' (rowO e r ++ own) ro := by
  obtain ⟨h1, h2⟩ := h
  rcases h2 with ⟨rfl, rfl⟩ | ⟨g, cap, cur, rfl, hg, hh, hnc, hcm, hcs, htk⟩
  · exact ⟨none, rfl, ⟨h1, rfl⟩, hm.later hl⟩
  · exact ⟨some (g, cur.toList, cap), rfl, ⟨h1, hnc, hcm, by simpa using hcs, htk⟩, hm.made1 hl (by omega) (by simpa using hh)⟩
end Go.PK

namespace Go.PK
open Go Go.RowKit
theorem run_copy_own {P : Program} (w : World) (dT sT ty elem : TypeId) (size : Nat) (g o dLen dCap : Nat) (a : Addr) (sLen sCap : Nat) (cur : Array Value) (t : TypeId) (cs : List Value)
    (hu : P.underlying dT = some (.slice elem)) (hs : (P.info? elem).map (·.size) = some size)
    (hg : w.heap[g]? = some (.cells cur t (0, 0))) (hn : cs.length = Nat.min sLen dLen * size)
    (hsrc : ∀ j v, cs[j]? = some v → w.cell? (a.add j) = some v) (hfit : o + cs.length ≤ cur.size) (h1 : ∀ v ∈ cs, v.oneCell' = true) :
    (Builtin.copy_ #[dT, sT] ty #[.slice (some ⟨g, o, none⟩) dLen dCap, .slice (some a) sLen sCap]).run P w =
      .ok (goInt (Nat.min sLen dLen)) (w.setRow g (cur.toList.take o ++ cs ++ cur.toList.drop (o + cs.length)).toArray) := by
  have hl := run_loadCells_list (P := P) w a cs hsrc
  have hst := run_storeCells_at P g o t cs 0 cur w hg (by simpa using hfit) h1
  cases hq : P.info? elem with
  | none => simp [hq] at hs
  | some i =>
    have hi : i.size = size := by simpa [hq] using hs
    have hn' : min sLen dLen * size = cs.length := hn.symm
    simp [Builtin.copy_, run_underlying hu, Builtin.lenOf, Builtin.firstCells, sizeOf, typeInfo, hq, hi, hn', hl, hst]
theorem Turned.row {w : World} {g : Nat} {cur row : Array Value} {t : TypeId} (hg : w.heap[g]? = some (.cells cur t (0, 0))) : Turned w (w.setRow g row) g (.cells row t (0, 0)) where
  os := rfl
  tape := rfl
  output := rfl
  size := by simp [World.setRow]
  at_ := setRow_heap w g cur row t _ hg
  other := fun k hk => by simp only [World.setRow]; rw [Array.getElem?_modify]; rw [if_neg (fun e => hk e.symm)]
section
variable {P : Program} {n : Nat} {l : List (Nat × Value)} {own : List (Nat × Obj)} {ro : List Snap} {lops : List Oper} {Q : Exit → Act → World → Prop} {K : Act → World → Prop}
  {rest : List (Option Bool × Nat)} {k : Option Bool} {i d : Nat} {op : Op} {ty : TypeId} {pos : String} {af : Array Edge} {x y z' : Operand} {t t1 t2 : TypeId}
theorem x_copy {e : TypeId} {size b o1 dl dc sb so sl sc m : Nat} {cs news : List Value} {te : TypeId} (l1 : List (Nat × Obj)) {l2 : List (Nat × Obj)} (ho : lops[i]? = some ⟨some d, .call ⟨.builtin .copy, #[x, y], #[t1, t2]⟩, ty, pos, af, none⟩) (hd : decide (d < n) = true)
    (hx : ev l x = some (.slice (some ⟨b, o1, none⟩) dl dc)) (hy : ev l y = some (.slice (some ⟨sb, so, none⟩) sl sc)) (hown : own = l1 ++ (b, .cells cs.toArray te (0, 0)) :: l2)
    (ht : P.underlying t1 = some (.slice e)) (hi : (P.info? e).map (·.size) = some size) (hmin : Nat.min sl dl = m)
    (hl : news.length = m * size) (hat : ∀ j (hj : j < news.length), At own ro sb (so + j) news[j]) (h1 : news.all (fun u => u.oneCell') = true) (hfit : o1 + news.length ≤ cs.length)
    (h : WX P lops.toArray Q K rest n ((d, .int .i64 (m : Nat)) :: l) (l1 ++ (b, .cells (cs.take o1 ++ news ++ cs.drop (o1 + news.length)).toArray te (0, 0)) :: l2) ro) : WX P lops.toArray Q K ((none, i) :: rest) n l own ro := by
  subst hmin
  intro a w ha hw
  have hd' : d < n := of_decide_eq_true hd
  have hw1 := go_none (lops := lops) (n := n) (l := l) (o := ⟨some d, .call ⟨.builtin .copy, #[x, y], #[t1, t2]⟩, ty, pos, af, none⟩) rfl a ha
  simp only [wpX, List.getElem?_toArray, ho]
  intro w' hl'
  rw [if_pos hw1]
  have hM := hw.later hl'
  have hnews : ∀ j u, news[j]? = some u → w'.cell? ((⟨sb, so, none⟩ : Addr).add j) = some u := fun j u hu => by
    obtain ⟨hj, rfl⟩ := List.getElem?_eq_some_iff.1 hu
    rw [mk_add]
    exact hat j hj w' hM
  have hb : w'.heap[b]? = some (.cells cs.toArray te (0, 0)) := hM.own_at (b, _) (by rw [hown]; simp)
  have hrun := run_copy_own (P := P) w' t1 t2 ty e size b o1 dl dc ⟨sb, so, none⟩ sl sc cs.toArray te news ht hi hb hl hnews (by simpa using hfit) (by simpa using h1)
  subst hown
  have hM2 := hM.turn (Turned.row (row := (cs.take o1 ++ news ++ cs.drop (o1 + news.length)).toArray) hb)
  unfold Oper.wp execOp
  simp only [resolve, invoke, builtin, Sem.run_bind, Sem.run_pure, Result.andThen_ok, List.map_toArray, List.map_cons, List.map_nil, ha.eval hx, ha.eval hy, hrun]
  exact h _ _ (ha.put _ hd') hM2
theorem x_turnV {τ : Type} {f : FuncId} {fn : Func} {xs : Array Operand} {tys : Array TypeId} {c : Operand} {vs : List Value} {fst cap : Array Value} (V : τ → Value) (R : τ → Prop) (O : τ → List (Nat × Obj)) (ho : lops[i]? = some ⟨some d, .call ⟨.value c, xs, tys⟩, ty, pos, af, none⟩) (hd : decide (d < n) = true)
    (hcal : ev l c = some (.func (.func f) fst cap)) (hf : P.funcs[f]? = some fn) (hbody : (!(fn.name == "runtime.NumGoroutine") && fn.body.isSome) = true) (hx : evs l xs.toList = some vs)
    (hc : ∀ w, Mem w own ro → Calls P f (fst ++ vs.toArray ++ cap) w fun e w' => ∃ x, e = .returned (V x) ∧ R x ∧ Mem w' (O x) ro)
    (h : ∀ x, R x → WX P lops.toArray Q K rest n ((d, V x) :: l) (O x) ro) : WX P lops.toArray Q K ((none, i) :: rest) n l own ro := by
  intro a w ha hw
  have hd' : d < n := of_decide_eq_true hd
  have hw1 := go_none (lops := lops) (n := n) (l := l) (o := ⟨some d, .call ⟨.value c, xs, tys⟩, ty, pos, af, none⟩) rfl a ha
  simp only [wpX, List.getElem?_toArray, ho]
  intro w' hl
  rw [if_pos hw1]
  unfold Oper.wp
  rw [run_callv rfl ha hcal hf hbody hx]
  refine Calls.mono (hc w' (hw.later hl)) fun e w2 he => ?_
  obtain ⟨x, rfl, hr, hm⟩ := he
  exact h x hr _ w2 (ha.put _ hd') hm
theorem x_append_zeros {e : TypeId} {z : Value} {size bytes m n0 c0 : Nat} {kq kn : IntKind} {A : Option Addr} {olds : List Value} (ho : lops[i]? = some ⟨some d, .call ⟨.builtin .append, #[x, y], #[t, t2]⟩, ty, pos, af, none⟩) (hd : decide (d < n) = true)
    (hx : ev l x = some (.slice A n0 c0)) (hy : ev l y = some (.int kq (m : Nat))) (hno : A = none → n0 = 0) (hm0 : 0 < m) (hroom : c0 < n0 + m)
    (holds : ∀ w, Mem w own ro → ∀ a, A = some a → ∀ j u, olds[j]? = some u → w.cell? (a.add j) = some u) (hlo : olds.length = n0 * size)
    (ht : P.underlying t = some (.slice e)) (htn : P.underlying t2 = some (.int kn)) (hi : (P.info? e).map (fun j => (j.zero, j.size, j.bytes)) = some (some z, size, bytes)) (hz : (decide (z.cells.size = size) && decide (0 < size)) = true)
    (hb1 : n0 + m ≤ maxLen) (hb2 : (n0 + m) * bytes ≤ 140737488355328)
    (h : ∀ (b : Nat) (cs : List Value) (cap : Nat), n0 + m ≤ cap → cap ≤ maxLen → cs.length = cap * size → cs.take (n0 * size) = olds → WX P lops.toArray Q K rest n ((d, .slice (some ⟨b, 0, none⟩) (n0 + m) cap) :: l) ((b, .cells cs.toArray e (0, 0)) :: own) ro) : WX P lops.toArray Q K ((none, i) :: rest) n l own ro := by
  intro a w ha hw
  have hd' : d < n := of_decide_eq_true hd
  have hw1 := go_none (lops := lops) (n := n) (l := l) (o := ⟨some d, .call ⟨.builtin .append, #[x, y], #[t, t2]⟩, ty, pos, af, none⟩) rfl a ha
  simp only [wpX, List.getElem?_toArray, ho]
  intro w' hl'
  rw [if_pos hw1]
  have hM := hw.later hl'
  obtain ⟨inf, hi1, hi2⟩ := Option.map_eq_some_iff.1 hi
  simp only [Prod.mk.injEq] at hi2
  obtain ⟨hiz, his, hib⟩ := hi2
  simp only [Bool.and_eq_true, decide_eq_true_eq] at hz
  subst his
  subst hib
  have hold : (Builtin.firstCells inf.size n0 (.slice A n0 c0)).run P w'.drew = .ok olds.toArray w'.drew := by
    cases A with
    | none =>
      obtain rfl := hno rfl
      obtain rfl : olds = [] := List.eq_nil_of_length_eq_zero (by rw [hlo, Nat.zero_mul])
      exact run_firstCells_none w'.drew inf.size 0 0 c0
    | some a0 => exact run_firstCells_some w'.drew inf.size n0 a0 n0 c0 olds hlo (by simpa using holds w' hM a0 rfl)
  have hmax : n0 + m ≤ 9223372036854775807 := by simp only [maxLen] at hb1; omega
  have hr := Lib.run_append_grow_zeros w' t t2 ty e inf z kq kn ht htn hi1 hiz A n0 c0 olds hold m hm0 hz.2 hroom (by omega) (by have := Nat.mul_le_mul_right inf.bytes (Nat.le_add_left m n0); omega) (growslice_fits hroom hb2)
  have hge := grownCap_ge w' (n0 + m) c0 e
  have hcm : grownCap w' (n0 + m) c0 e ≤ maxLen := grownCap_le_maxLen w' (n0 + m) c0 e hb1
  generalize grownCap w' (n0 + m) c0 e = cap at hr hge hcm
  have hM2 : Mem (w'.drew.alloc (.cells (olds.toArray ++ Builtin.zeroCells z.cells m ++ Builtin.zeroCells z.cells (cap - (n0 + m))) e)) ((w'.heap.size, .cells (olds ++ ((Builtin.zeroCells z.cells m ++ Builtin.zeroCells z.cells (cap - (n0 + m))).toList)).toArray e (0, 0)) :: own) ro := by
    have h3 := (hM.later (Later.drew w')).new (.cells (olds.toArray ++ Builtin.zeroCells z.cells m ++ Builtin.zeroCells z.cells (cap - (n0 + m))) e)
    have e1 : (olds ++ ((Builtin.zeroCells z.cells m ++ Builtin.zeroCells z.cells (cap - (n0 + m))).toList)).toArray = olds.toArray ++ Builtin.zeroCells z.cells m ++ Builtin.zeroCells z.cells (cap - (n0 + m)) := by
      apply Array.ext'
      simp
    rw [e1]
    exact h3
  unfold Oper.wp execOp
  simp only [resolve, invoke, builtin, Sem.run_bind, Sem.run_pure, Result.andThen_ok, List.map_toArray, List.map_cons, List.map_nil, ha.eval hx, ha.eval hy, hr]
  refine h w'.heap.size _ cap hge hcm ?_ ?_ _ _ (ha.put _ hd') hM2
  · simp only [List.length_append, Array.length_toList, Array.size_append, size_zeroCells, hz.1, hlo, ← Nat.add_mul]
    congr 1
    omega
  · rw [← hlo]; exact List.take_left
end
section
variable {P : Program} {n : Nat} {l : List (Nat × Value)} {own : List (Nat × Obj)} {ro : List Snap} {ty : TypeId} {x y : Operand} {t : TypeId}
theorem v_cap {e : TypeId} {A : Option Addr} {m c : Nat} (ht : P.underlying t = some (.slice e)) (hx : ev l x = some (.slice A m c)) : OpV P n l own ro (.call ⟨.builtin .cap, #[x], #[t]⟩) ty (.int .i64 c) := by
  intro a w o ha _ ho _
  simp [execOp, ho, resolve, invoke, builtin, ha.eval hx, Builtin.cap_, run_underlying ht, goInt]
theorem v_overlaps {f : FuncId} {fn : Func} {tys : Array TypeId} {tR e te1 te2 : TypeId} {size na nb oa ob la ca lb cb : Nat} {ca1 cb1 : List Value}
    (hf : P.funcs[f]? = some fn) (hname : (fn.name == "runtime.NumGoroutine") = false) (hb : fn.body.isNone = true) (hn : Extern.findNext fn = none) (he : Extern.find fn = some (Extern.SlicesOverlaps.overlaps #[t, t] #[tR]))
    (ht : P.underlying t = some (.slice e)) (hi : (P.info? e).map (·.size) = some size)
    (hx : ev l x = some (.slice (some ⟨na, oa, none⟩) la ca)) (hy : ev l y = some (.slice (some ⟨nb, ob, none⟩) lb cb)) (h1 : (na, Obj.cells ca1.toArray te1 (0, 0)) ∈ own) (h2 : (nb, Obj.cells cb1.toArray te2 (0, 0)) ∈ own) (hne : ∀ w, Mem w own ro → na ≠ nb) (h0 : cb1.length ≠ 0) :
    OpV P n l own ro (.call ⟨.value (.func f), #[x, y], tys⟩) ty (.bool false) := by
  intro a w o ha hw ho _
  have hq : a.eval (.func f) = .func (.func f) #[] #[] := rfl
  have hA := hw.own_at _ h1
  have hB := hw.own_at _ h2
  have h4 := Lib.run_overlaps_apart (P := P) w t tR e ht size (fun w => run_sizeOf hi) ⟨na, oa, none⟩ ⟨nb, ob, none⟩ la ca lb cb (hne w hw) te1 te2 ca1.length cb1.length
    (by simp [World.shape?, hA]) (by simp [World.shape?, hB]) h0 (by simp [World.frozen?, hA]) (by simp [World.frozen?, hA])
  simp [execOp, ho, resolve, hq, ha.eval hx, ha.eval hy, Deferred.ofValue, invoke, run_callFunc_extern hf hname hb hn he]
  rw [h4]
  rfl
theorem v_scut_fromB {e : TypeId} {len cap i m b o : Nat} {kk : IntKind} (ht : P.underlying t = some (.slice e)) (hs : (P.info? e).map (·.size) = some m) (hx : ev l x = some (.slice (some ⟨b, o, none⟩) len cap)) (hy : ev l y = some (.int kk (i : Nat))) (hi : i ≤ len) (hc : len ≤ cap) (hlt : i < cap) :
    OpV P n l own ro (.slice t x (some y) none none) ty (.slice (some ⟨b, o + i * m, none⟩) (len - i) (cap - i)) := by
  have h := v_scut_from (n := n) (own := own) (ro := ro) (ty := ty) ht hs hx hy hi hc
  rw [if_neg (by omega), Option.map_some, mk_add] at h
  exact h
end
end Go.PK

namespace Go.PK
open Go Go.RowKit
theorem rowsIn_of {n : Nat} {P : Program} {row : String} {args : Array Value} {w : World} {R : Value → World → Prop} (h : Rows P row args w R) : RowsIn Fence.wide n P row args w R :=
  fun c cs _ => let ⟨v, w', r, s⟩ := h c cs; ⟨v, w', r, stepsIn_wide.2 s⟩
theorem oper_in {lr n : Nat} {P : Program} {o : Oper} {a : Act} {w : World} {K : Act → World → Prop} {Q : Exit → Act → World → Prop} (hd : ∀ c, o.op ≠ .defer c) (h : o.wp P a w K Q) : o.wpIn (Fence.wide.inRound lr) n P a w K Q := by
  refine ⟨fun _ _ => trivial, ?_⟩
  rw [Oper.semAt_eq _ _ _ hd]
  unfold Oper.wp at h
  cases hr : (execOp a.eval o).run P w with
  | ok x w' =>
    rw [hr] at h
    cases x with
    | value v => exact h
    | skip => exact h
    | defer d => exact h
    | enter f args => exact ⟨fun h => by simp [Fence.wide] at h, callsIn_wide.2 h⟩
    | row row args => exact ⟨fun h => by simp [Fence.wide] at h, rowsIn_of h⟩
    | _ => exact h.elim
  | halt x w' =>
    rw [hr] at h
    cases x <;> first | exact h | exact h.elim
theorem any_in {lr n : Nat} {P : Program} {md : Region.Mode} {ops : Array Oper} {Q : Exit → Act → World → Prop} (hlo : ¬LetsOut Q) (hd : ∀ (j : Nat) (o : Oper) c, ops[j]? = some o → o.op ≠ .defer c) :
    ∀ (fuel : Nat) (listed : Array Bool) (a : Act) (w : World), wpAny P md ops Q fuel listed a w → wpAnyIn (Fence.wide.inRound lr) n P md ops Q fuel listed a w
  | 0, _, _, _, h => h
  | fuel + 1, listed, a, w, h => ⟨h.1, fun i hi => by
    have h2 := h.2 i hi
    unfold wpOp at h2
    unfold wpOpIn
    cases ho : ops[i]? with
    | none => rw [ho] at h2; exact any_in hlo hd fuel _ _ _ h2
    | some o =>
      rw [ho] at h2
      dsimp only at h2 ⊢
      split
      · rename_i hw
        rw [if_pos hw] at h2
        rcases h2 with h2 | h2
        · exact oper_in (hd i o · ho) (Oper.wp_mono (fun a' w' hk => any_in hlo hd fuel _ _ _ hk) h2)
        · exact absurd h2.2 hlo
      · rename_i hw
        rw [if_neg hw] at h2
        exact ⟨fun _ _ => trivial, any_in hlo hd fuel _ _ _ h2⟩⟩
section
variable {P : Program}
end
section
variable {P : Program} {oF : List (Nat × Obj)} {rF : List Snap}
theorem wpIn_region_inv {lr k id : Nat} {Q : Exit → Act → World → Prop} {a : Act} {w : World} {l : List Oper} (n : Nat) (t : Pl) (hlo : ¬LetsOut Q) (hd : ∀ (j : Nat) (o : Oper) c, l.toArray[j]? = some o → o.op ≠ .defer c) (hm : P.follows .mixedOrders = true)
    (hB : (Region.noSelect l.toArray && (decide (n = l.toArray.size) || (decide (n < l.toArray.size) && Region.sinkB .any l.toArray n && Region.chainB .any l.toArray n)) && treeB .any l.toArray n false n t (Array.replicate l.toArray.size false)) = true)
    (hw : Mem w oF rF) (h : wpJ P l.toArray oF rF (fun a' w' => ∀ w'', Later w' w'' → wpList P l.toArray Q (l.drop n) a' w'') t a w) : (Code.region id l.toArray true).wpIn (Fence.wide.inRound lr) k P Q a w := by
  simp only [Bool.and_eq_true] at hB
  obtain ⟨⟨hsel, hn⟩, hpl⟩ := hB
  have hnle : n ≤ l.toArray.size := by
    rcases Bool.or_eq_true _ _ ▸ hn with hn | hn
    · simp only [decide_eq_true_eq] at hn; omega
    · simp only [Bool.and_eq_true, decide_eq_true_eq] at hn; omega
  have hnt : ∀ i, i < n → ∀ listed, HeadInv .any l.toArray n listed → listed.getD i true = false → ∀ j ∈ Region.ready .any l.toArray listed, j < n := by
    intro i hin listed inv hun j hj
    rcases Bool.or_eq_true _ _ ▸ hn with hn | hn
    · simp only [decide_eq_true_eq] at hn
      have := ready_lt j hj
      omega
    · simp only [Bool.and_eq_true, decide_eq_true_eq] at hn
      obtain ⟨⟨hn, hs⟩, hc⟩ := hn
      rcases Nat.lt_or_ge j n with h | h
      · exact h
      · exact absurd hj (tail_waits hs hc hn inv _ i rfl hin hun j h)
  have inv0 : HeadInv .any l.toArray n (Array.replicate l.toArray.size false) :=
    ⟨by simp, fun j oj _ hl => (by rw [getD_replicate_false] at hl; cases hl), fun t _ ht => getD_in (by simpa using ht) (getD_replicate_false _ _)⟩
  have H := (wpAnyJ_tree (P := P) (md := .any) (oF := oF) (rF := rF) (Q := fun a' w' => ∀ w'', Later w' w'' → wpList P l.toArray Q (l.drop n) a' w'') (fun a w w' hw hq w'' hw'' => hq w'' (hw.trans hw'')) hsel hnt t n _ a w inv0).1 hpl h
  refine wpIn_region_any hm (any_in hlo hd _ _ _ _ ?_)
  have hdl : (l.drop n).length = l.toArray.size - n := by simp
  have := wpAny_of_canJ (Q' := Q) (g := l.toArray.size - n) (oF := oF) (rF := rF) (fun listed a' w' _ hL => by
    have := wpAny_of_seq (md := .any) (Q' := Q) (l.drop n) n listed a' w' (fun j => by simp [List.getElem?_drop]) (by rw [hdl]; exact hL.1) (hL.2 w' (Later.refl _))
    rwa [hdl] at this) _ _ _ _ (hw.later (Later.drew w)) (wpAnyJ_later (fun _ _ _ _ hw hq => ⟨hq.1, fun w2 h2 => hq.2 w2 (hw.trans h2)⟩) _ _ _ _ _ (Later.drew w) H)
  rw [show n + (l.toArray.size - n) = l.toArray.size by omega] at this
  exact this
theorem rg_invR {lr k id nn : Nat} {l : List (Nat × Value)} {own : List (Nat × Obj)} {ro : List Snap} {Q : Exit → Act → World → Prop} {a : Act} {w : World} {lops : List Oper} (oF : List (Nat × Obj)) (m : Nat) (t : Pl) (hsub : oF.Sublist own) (hlo : ¬LetsOut Q) (hd : lops.all (fun o => match o.op with | .defer _ => false | _ => true) = true) (hm : P.follows .mixedOrders = true)
    (hB : (Region.noSelect lops.toArray && (decide (m = lops.toArray.size) || (decide (m < lops.toArray.size) && Region.sinkB .any lops.toArray m && Region.chainB .any lops.toArray m)) && treeB .any lops.toArray m false m t (Array.replicate lops.toArray.size false)) = true)
    (ha : FH nn l a) (hw : Mem w own ro) (h : S (wpJ P lops.toArray oF ro (fun a' w' => ∀ w'', Later w' w'' → wpList P lops.toArray Q (lops.drop m) a' w'') t) nn l own ro) : (Code.region id lops.toArray true).wpIn (Fence.wide.inRound lr) k P Q a w :=
  wpIn_region_inv m t hlo (fun j o c hj e => by
    rw [List.getElem?_toArray] at hj
    have := List.all_eq_true.1 hd o (List.mem_of_getElem? hj)
    rw [e] at this; cases this) hm hB (hw.less hsub (fun _ h => h)) (h a w ha hw)
end
theorem FH.none {n : Nat} {a : Act} (h1 : a.tmps.size = n) (h2 : a.defers = []) : FH n [] a := ⟨h1, h2, fun s v h => by simp at h⟩
theorem FH.add {n d : Nat} {l : List (Nat × Value)} {a : Act} {v : Value} (h : FH n l a) (hv : a.tmps[d]? = some v) : FH n ((d, v) :: l) a := ⟨h.sz, h.df, fun s u hu => by
  simp only [List.lookup_cons] at hu
  by_cases hs : s = d
  · subst hs; simp at hu; subst hu; exact hv
  · have : (s == d) = false := by simpa using hs
    simp only [this] at hu
    exact h.at_ s u hu⟩
theorem Mem.three {W : World} {b1 b2 b3 : Nat} {o1 o2 o3 : Obj} (h1 : W.heap[b1]? = some o1) (h2 : W.heap[b2]? = some o2) (h3 : W.heap[b3]? = some o3) (n1 : b1 ≠ b2) (n2 : b1 ≠ b3) (n3 : b2 ≠ b3) :
    Mem W [(b1, o1), (b2, o2), (b3, o3)] [(W, notOwn [(b1, o1), (b2, o2), (b3, o3)])] := by
  have h : Mem W [(b1, o1), (b2, o2), (b3, o3)] [] :=
    ⟨(fun p hp => by simp at hp; rcases hp with rfl | rfl | rfl <;> assumption), (by simp; exact ⟨⟨n1, n2⟩, n3⟩), (fun s hs => by cases hs), (fun s hs => by cases hs), (fun p hp s hs => by cases hs)⟩
  exact h.snap
end Go.PK

namespace Go.PK
open Go Go.RowKit
def txTo (ns : List Int) : Nat → ByteArray
  | 0 => ⟨#[]⟩
  | k + 1 => (if 0 < k then txTo ns k ++ slash else txTo ns k) ++ itoaS (ns.getD k 0)
def txN (ns : List Int) : ByteArray := txTo ns ns.length
theorem txTo_sz {ns : List Int} (h : ∀ d ∈ ns, in64 d) : ∀ k, k ≤ ns.length → (txTo ns k).size ≤ 22 * k
  | 0, _ => Nat.le_refl _
  | k + 1, hk => by
    have ih := txTo_sz h k (by omega)
    have a := itoaS_size (h _ (by rw [getD_lt (show k < ns.length by omega)]; exact List.getElem_mem _) : in64 (ns.getD k 0))
    have d2 : slash.size = 1 := rfl
    rw [txTo, ByteArray.size_append]
    split
    · rw [ByteArray.size_append]; omega
    · omega
def isT (p : Pat) (sk : Bool) (k : Int) : ByteArray := if sk then ⟨#[120]⟩ ++ txN (numsP p k) else txN (numsP p k)
theorem nums_tx {p : Pat} (h : rightQ p) {k : Int} (h0 : 0 ≤ k) (hk : k ≤ 2000000) : numsP p k ≠ [] ∧ (numsP p k).length ≤ 4 ∧ ∀ d ∈ numsP p k, 0 ≤ d ∧ d < 10000000 := by
  have hl := numsP_len h k
  have h1 := h.1.1
  have h2 := h.1.2.1
  refine ⟨fun e => by rw [e] at hl; simp at hl; omega, by omega, fun d hd => ?_⟩
  have := nums_in h h0 hk d hd
  omega
def patL (l : List Int) : Pat := if l.length < 2 then madeP 5 30 [] else madeP (l.getD 0 0) (l.getD 1 0) (l.drop 2)
theorem patL_right (l : List Int) : rightQ (patL l) := by unfold patL; split <;> exact made_right _ _ _
theorem patL_rng (l : List Int) : 10000 ≤ (patL l).first ∧ (patL l).first < 20000 := by
  have key : ∀ f d m, 10000 ≤ (madeP f d m).first ∧ (madeP f d m).first < 20000 := fun f d m => by
    have f1 := Int.emod_nonneg f (show (10000 : Int) ≠ 0 by decide)
    have f2 := Int.emod_lt_of_pos f (show (0 : Int) < 10000 by decide)
    show 10000 ≤ 10000 + f % 10000 ∧ 10000 + f % 10000 < 20000
    omega
  unfold patL; split <;> exact key _ _ _
end Go.PK

namespace Go.PK
open Go Go.RowKit
section
variable {P : Program} {m : Nat}
theorem oper_wide {n : Nat} {o : Oper} {a : Act} {w : World} {K : Act → World → Prop} {Q : Exit → Act → World → Prop} (hd : ∀ c, o.op ≠ .defer c) (h : o.wp P a w K Q) : o.wpIn Fence.wide n P a w K Q := by
  refine ⟨fun _ _ => trivial, ?_⟩
  rw [Oper.semAt_eq _ _ _ hd]
  unfold Oper.wp at h
  cases hr : (execOp a.eval o).run P w with
  | ok x w' =>
    rw [hr] at h
    cases x with
    | value v => exact h
    | skip => exact h
    | defer d => exact h
    | enter f args => exact ⟨fun h => by simp [Fence.wide] at h, callsIn_wide.2 h⟩
    | row row args => exact ⟨fun h => by simp [Fence.wide] at h, fun c cs _ => let ⟨v, w', r, s⟩ := h c cs; ⟨v, w', r, stepsIn_wide.2 s⟩⟩
    | _ => exact h.elim
  | halt x w' =>
    rw [hr] at h
    cases x <;> first | exact h | exact h.elim
structure Lets (F : Fence) (m : Nat) (P : Program) : Prop where
  fn : ∀ f, F.fn f
  op : ∀ {o : Oper} {a : Act} {w : World} {K : Act → World → Prop} {Q : Exit → Act → World → Prop}, (∀ c, o.op ≠ .defer c) → o.wp P a w K Q → o.wpIn F m P a w K Q
theorem lets_wide : Lets Fence.wide m P := ⟨fun _ => trivial, fun hd h => oper_wide hd h⟩
theorem lets_round (lr : Nat) : Lets (Fence.wide.inRound lr) m P := ⟨fun _ => trivial, fun hd h => oper_in hd h⟩
theorem no_defer {lops : List Oper} (hd : lops.all (fun o => match o.op with | .defer _ => false | _ => true) = true) {o : Oper} (ho : o ∈ lops) : ∀ c, o.op ≠ .defer c := fun c e => by
  have := List.all_eq_true.1 hd o ho
  rw [e] at this; cases this
theorem listIn_of_X {F : Fence} (hF : Lets F m P) {lops : List Oper} {Q : Exit → Act → World → Prop} {K : Act → World → Prop} (hd : lops.all (fun o => match o.op with | .defer _ => false | _ => true) = true) {j : Nat} (hj : j ≤ lops.length)
    (hK : ∀ a w, K a w → wpListIn F m P lops.toArray Q (lops.drop j) a w) : ∀ (k s : Nat) (a : Act) (w : World), s + k = j → wpX P lops.toArray Q K ((List.range' s k).map fun i => (none, i)) a w → wpListIn F m P lops.toArray Q (lops.drop s) a w
  | 0, s, a, w, hs, h => by
    obtain rfl : s = j := by omega
    exact hK a w (h w (Later.refl _))
  | k + 1, s, a, w, hs, h => by
    have hlt : s < lops.length := by omega
    rw [List.drop_eq_getElem_cons hlt]
    rw [List.range'_succ, List.map_cons] at h
    simp only [wpX, List.getElem?_toArray, List.getElem?_eq_getElem hlt] at h
    have h3 := h w (Later.refl _)
    refine wpListIn_step fun K' hK' => ?_
    split <;> rename_i hw
    · rw [if_pos hw] at h3
      exact hF.op (no_defer hd (List.getElem_mem hlt)) (Oper.wp_mono (fun a' w' hk' => hK' _ _ (listIn_of_X hF hd hj hK k (s + 1) a' w' (by omega) hk')) h3)
    · rw [if_neg hw] at h3
      exact ⟨fun f _ => hF.fn f, hK' _ _ (listIn_of_X hF hd hj hK k (s + 1) _ w (by omega) h3)⟩
end
section
variable {P : Program} {m n : Nat} {l : List (Nat × Value)} {own : List (Nat × Obj)} {ro : List Snap} {F : Fence} {Q : Exit → Act → World → Prop}
def WI (F : Fence) (m : Nat) (P : Program) (c : Code) (Q : Exit → Act → World → Prop) (n : Nat) (l : List (Nat × Value)) (own : List (Nat × Obj)) (ro : List Snap) : Prop :=
  ∀ a w, FH n l a → Mem w own ro → c.wpIn F m P Q a w
theorem wi_seq {x y : Code} (h : WI F m P x (Exit.then (y.wpIn F m P Q) Q) n l own ro) : WI F m P (.seq x y) Q n l own ro := fun a w ha hw => wpIn_seq (h a w ha hw)
theorem wi_block {id : Nat} {c : Code} (h : WI F m P c (Exit.inBlock id Q) n l own ro) : WI F m P (.block id c) Q n l own ro := fun a w ha hw => wpIn_block (h a w ha hw)
theorem wi_skip (h : S (Q .normal) n l own ro) : WI F m P .skip Q n l own ro := fun a w ha hw => wpIn_skip (h a w ha hw)
theorem wi_cond {c : Operand} {x y : Code} {t : Bool} (hc : ev l c = some (.bool t)) (ht : t = true → WI F m P x Q n l own ro) (hf : t = false → WI F m P y Q n l own ro) : WI F m P (.cond c x y) Q n l own ro :=
  fun a w ha hw => wpIn_cond_split (ha.eval hc) (fun h => ht h a w ha hw) (fun h => hf h a w ha hw)
theorem ti_norm {y : Code} (h : WI F m P y Q n l own ro) : S (Exit.then (y.wpIn F m P Q) Q .normal) n l own ro := h
theorem t_k {K : Act → World → Prop} (h : S K n l own ro) : S (Exit.then K Q .normal) n l own ro := h
theorem ri_text (hF : Lets F m P) {id : Nat} {lops : List Oper} (hd : lops.all (fun o => match o.op with | .defer _ => false | _ => true) = true)
    (h : WX P lops.toArray Q (fun a w => Q .normal a w) (tailFrom 0 lops.length) n l own ro) : WI F m P (.region id lops.toArray false) Q n l own ro := fun a w ha hw =>
  wpIn_region_lit (by
    have := listIn_of_X hF (K := fun a w => Q .normal a w) hd (Nat.le_refl _) (fun a w hk => by rw [List.drop_length]; exact hk) lops.length 0 a w (by omega) (h a w ha hw)
    rwa [List.drop_zero] at this)
theorem rg_yield {id : Nat} {lops : List Oper} (j m : Nat) (hd : lops.all (fun o => match o.op with | .defer _ => false | _ => true) = true) (hj : decide (j ≤ lops.length) = true)
    (h : WX P lops.toArray Q (fun a w => wpListIn Fence.wide m P lops.toArray Q (lops.drop j) a w) (tailFrom 0 j) n l own ro) : W P (.region id lops.toArray false) Q n l own ro := fun a w ha hw =>
  (wpIn_wide (n := m)).1 (wpIn_region_lit (by
    have := listIn_of_X (lets_wide (m := m) (P := P)) hd (of_decide_eq_true hj) (fun a w hk => hk) j 0 a w (by omega) (h a w ha hw)
    rwa [List.drop_zero] at this))
theorem s_yield {lops : List Oper} {j d t L : Nat} {xs : Array Operand} {tys : Array TypeId} {ty : TypeId} {pos : String} {af : Array Edge} {vs : List Value} {v : Value} {τ : Type} (I : τ → Prop) (O : τ → List (Nat × Obj))
    (ho : lops[j]? = some ⟨some d, .call ⟨.value (.tmp t), xs, tys⟩, ty, pos, af, none⟩) (hd : decide (d < n) = true) (hf : l.lookup t = some (.func (.yield L) #[] #[])) (hx : evs l xs.toList = some vs) (hm : decide (1 ≤ m) = true)
    (hY : ∀ w, Mem w own ro → YieldAt Fence.wide (m - 1) P L vs.toArray w fun e w' => e = .returned v ∧ ∃ x, I x ∧ Mem w' (O x) ro)
    (h : ∀ x, I x → S (fun a w => wpListIn Fence.wide m P lops.toArray Q (lops.drop (j + 1)) a w) n ((d, v) :: l) (O x) ro) : S (fun a w => wpListIn Fence.wide m P lops.toArray Q (lops.drop j) a w) n l own ro := by
  intro a w ha hw
  have hlt : j < lops.length := (List.getElem?_eq_some_iff.1 ho).1
  have he : lops[j] = ⟨some d, .call ⟨.value (.tmp t), xs, tys⟩, ty, pos, af, none⟩ := by
    rw [List.getElem?_eq_getElem hlt] at ho; exact Option.some.inj ho
  obtain ⟨fn, tmps, assign, body, hy, hR⟩ := hY w hw
  show wpListIn Fence.wide m P lops.toArray Q (lops.drop j) a w
  rw [List.drop_eq_getElem_cons hlt, he]
  refine wpListIn_plain rfl fun K hK => ?_
  refine ⟨fun _ _ => trivial, ?_⟩
  rw [Oper.semAt_eq _ _ _ (fun c e => by cases e)]
  have hev := ha.evals hx
  have hrun : (execOp a.eval ⟨some d, .call ⟨.value (.tmp t), xs, tys⟩, ty, pos, af, none⟩).run P w = .ok (.round L fn tmps assign body) w := by
    have h1 : (xs.map a.eval) = vs.toArray := by
      apply Array.ext'
      rw [Array.toList_map, hev]
    have hft : a.tmps[t]?.getD undef = .func (.yield L) #[] #[] := by rw [ha.at_ t _ hf]; rfl
    simp [execOp, resolve, hft, h1, go_sem, invoke, hy]
  rw [hrun]
  refine ⟨fun _ => of_decide_eq_true hm, ?_⟩
  refine hR.mono ?_
  rintro e w' ⟨rfl, x, hI, hm'⟩
  exact hK _ _ (h x hI _ w' (ha.put v (of_decide_eq_true hd)) hm')
theorem s_rest {lops : List Oper} {j : Nat} (hd : lops.all (fun o => match o.op with | .defer _ => false | _ => true) = true) (hj : decide (j ≤ lops.length) = true)
    (h : WX P lops.toArray Q (fun a w => Q .normal a w) (tailFrom j lops.length) n l own ro) : S (fun a w => wpListIn Fence.wide m P lops.toArray Q (lops.drop j) a w) n l own ro := fun a w ha hw =>
  listIn_of_X lets_wide (K := fun a w => Q .normal a w) hd (Nat.le_refl _) (fun a w hk => by rw [List.drop_length]; exact hk) (lops.length - j) j a w (by have := of_decide_eq_true hj; omega) (h a w ha hw)
end
def recL (st : LoopState) (fn : FuncId) (tmps : Array Value) (ps : Array Tmp) (assign body : Code) (D : Nat) : Loop := { state := st, pending := none, fn, tmps, params := ps, assign, body, defers := D }
theorem turned_put {w : World} {g : Nat} {o o' : Obj} (h : w.heap[g]? = some o) : Turned w (w.putObj g o') g o' := turned_obj h
section
variable {P : Program} {m n : Nat} {l : List (Nat × Value)} {own rest : List (Nat × Obj)} {ro : List Snap} {Q : Exit → Act → World → Prop} {R : Ending → World → Prop} {L : Nat} {fn : FuncId} {tmps : Array Value} {assign body : Code} {D : Nat}
theorem yield_two {w : World} {d1 d2 : Nat} {v1 v2 : Value} (hm : Mem w ((L, .loop (recL .ready fn tmps #[d1, d2] assign body D)) :: rest) ro) (hfh : FH n l ⟨tmps, []⟩) (h1 : decide (d1 < n) = true) (h2 : decide (d2 < n) = true)
    (h : WI (Fence.wide.inRound L) m P assign (Exit.then (fun a w => ∃ w2, (Instr.beginRound L).run P w = .ok () w2 ∧ body.wpIn (Fence.wide.inRound L) m P (roundPost P L R) a w2) (fun _ _ _ => False)) n ((d2, v2) :: (d1, v1) :: l) ((L, .loop (recL .ready fn tmps #[d1, d2] assign body D)) :: rest) ro) :
    YieldAt Fence.wide m P L #[v1, v2] w R := by
  have hl := hm.own_at _ (.head _)
  have hy := run_yield (P := P) (args := #[v1, v2]) hl rfl
  refine ⟨fn, _, assign, body, hy, roundIn_of_wpIn trivial (h _ w ?_ hm)⟩
  have := (hfh.put v1 (of_decide_eq_true h1)).put v2 (of_decide_eq_true h2)
  have e : (#[d1, d2] : Array Tmp).zip #[v1, v2] = #[(d1, v1), (d2, v2)] := by
    apply Array.ext'
    simp
  show FH n ((d2, v2) :: (d1, v1) :: l) { tmps := ((#[d1, d2] : Array Tmp).zip #[v1, v2]).foldl (fun t (q : Tmp × Value) => t.setIfInBounds q.1 q.2) tmps, defers := [] }
  rw [e]
  exact this
theorem s_begin {st : LoopState} {ps : Array Tmp} (hst : st = .ready) (h : WI (Fence.wide.inRound L) m P body (roundPost P L R) n l ((L, .loop (recL .busy fn tmps ps assign body D)) :: rest) ro) :
    S (fun a w => ∃ w2, (Instr.beginRound L).run P w = .ok () w2 ∧ body.wpIn (Fence.wide.inRound L) m P (roundPost P L R) a w2) n l ((L, .loop (recL st fn tmps ps assign body D)) :: rest) ro := by
  subst hst
  intro a w ha hw
  have hl := hw.own_at _ (.head _)
  exact ⟨_, run_beginRound hl rfl, h a _ ha (Mem.turn (l1 := []) hw (turned_put hl))⟩
theorem s_round {ps : Array Tmp} (h : ∀ w', Mem w' ((L, .loop (recL .ready fn tmps ps assign body D)) :: rest) ro → R (.returned (.bool true)) w') :
    S (roundPost P L R .normal) n l ((L, .loop (recL .busy fn tmps ps assign body D)) :: rest) ro := by
  intro a w ha hw
  have hl := hw.own_at _ (.head _)
  exact ⟨_, _, run_endRound none hl, h _ (Mem.turn (l1 := []) hw (turned_put hl))⟩
def SD (D : Nat) (K : Act → World → Prop) (n : Nat) (l : List (Nat × Value)) (own : List (Nat × Obj)) (ro : List Snap) : Prop :=
  ∀ a w, FH n l a → Mem w own ro → K { a with defers := [{ target := .collected D, args := #[] }] } w
theorem w_range {g : Operand} {ps : Array Tmp} {gf : Nat} {lb : Array Value} {τ : Type} (I : τ → Prop) (O : τ → List (Nat × Obj)) (hg : ev l g = some (.func (.func gf) #[] lb)) (eg : ∀ args w, (callFunc gf args).run P w = .ok (.enter gf args) w)
    (hc : ∀ (L D : Nat) (fn : FuncId) (tmps : Array Value) (w1 : World), FH n l ⟨tmps, []⟩ → Mem w1 ((L, .loop (recL .ready fn tmps ps assign body D)) :: (D, .deferred (some [])) :: own) ro →
      Calls P gf (#[.func (.yield L) #[] #[]] ++ lb) w1 fun e w2 => (∃ v, e = .returned v) ∧ ∃ x, I x ∧ Mem w2 ((L, .loop (recL .ready fn tmps ps assign body D)) :: (D, .deferred (some [])) :: O x) ro)
    (h : ∀ D x, I x → SD D (Q .normal) n l ((D, .deferred (some [])) :: O x) ro) : W P (.rangeFunc g ps assign body) Q n l own ro := by
  intro a w ha hw
  refine (wpIn_wide (n := 1)).1 (wpIn_rangeFunc ?_)
  intro fn _
  have hgv := ha.eval hg
  have hdf : a.defers = [] := ha.df
  have h1 : Mem (w.alloc (.deferred (some []))) ((w.heap.size, .deferred (some [])) :: own) ro := hw.new _
  have h2 : Mem ((w.alloc (.deferred (some []))).alloc (.loop (recL .ready fn a.tmps ps assign body w.heap.size))) ((w.heap.size + 1, .loop (recL .ready fn a.tmps ps assign body w.heap.size)) :: (w.heap.size, .deferred (some [])) :: own) ro := by
    have h3 := h1.new (.loop (recL .ready fn a.tmps ps assign body w.heap.size))
    rwa [World.size_alloc] at h3
  have hfh : FH n l ⟨a.tmps, []⟩ := ⟨ha.sz, rfl, ha.at_⟩
  have hC := hc _ _ fn a.tmps _ hfh h2
  have hC2 : CallsIn Fence.wide 0 P gf (#[.func (.yield (w.heap.size + 1)) #[] #[]] ++ lb) ((w.alloc (.deferred (some []))).alloc (.loop (recL .ready fn a.tmps ps assign body w.heap.size))) (rangePost Fence.wide 1 P (w.heap.size + 1) Q { a with defers := [{ target := .collected w.heap.size, args := #[] }] ++ a.defers }) := by
    refine callsIn_wide.2 (Calls.mono hC ?_)
    rintro e w2 ⟨⟨v, rfl⟩, x, hx, hm⟩
    have hl := hm.own_at _ (.head _)
    refine ⟨none, _, run_endLoop hl (by simp [recL]), ?_⟩
    have h4 := Mem.turn (l1 := []) hm (turned_put (o' := .loop { recL .ready fn a.tmps ps assign body w.heap.size with state := .exhausted }) hl)
    have h5 := h _ x hx a _ ha (h4.less (List.sublist_cons_self _ _) (fun _ h => h))
    rw [hdf]
    exact h5
  clear hC h2 h1
  have hres : (resolve a.eval (rangeCall g (w.heap.size + 1)) 0).run P ((w.alloc (.deferred (some []))).alloc (.loop (recL .ready fn a.tmps ps assign body w.heap.size))) = .ok { target := .fn (.func gf) lb, args := #[.func (.yield (w.heap.size + 1)) #[] #[]] } ((w.alloc (.deferred (some []))).alloc (.loop (recL .ready fn a.tmps ps assign body w.heap.size))) := by
    simp only [resolve, hgv]
    simp [go_sem]
  have hinv : ∀ W : World, (invoke (.fn (.func gf) lb) #[.func (.yield (w.heap.size + 1)) #[] #[]]).run P W = .ok (.enter gf (#[.func (.yield (w.heap.size + 1)) #[] #[]] ++ lb)) W := fun W => by simp [invoke, go_sem, eg]
  exact ⟨w.heap.size + 1, [{ target := .collected w.heap.size, args := #[] }], _, _, _, gf, _, _, run_enterLoop_outer _ _ _ _ _, hres, fun _ _ => trivial, hinv _, fun h => by simp [Fence.wide] at h, hC2⟩
theorem enterM {f : FuncId} {fd : Func} {c : Code} {vs : List Value} {w : World} (m : Nat) (hf : P.funcs[f]? = some fd) (hb : fd.body = some c) (hn : fd.ntmps = n) (hv : decide (vs.length ≤ n) = true)
    (h : W P c (bodyPostM Fence.wide m P fd R) n (slots 0 vs) [] [(w, fun _ => True)]) : Calls P f vs.toArray w R := by
  have hv' := of_decide_eq_true hv
  refine callsIn_wide.1 (callsIn_of_wp_marks hf hb trivial ((wpIn_wide (n := m)).2 (h _ w ⟨by simp [hn]; omega, rfl, fun s v hs => ?_⟩ (Mem.init w))) rfl)
  obtain ⟨_, h2⟩ := slots_lookup _ _ _ _ hs
  simp only [Nat.sub_zero] at h2
  have hlt : s < vs.length := (List.getElem?_eq_some_iff.1 h2).1
  show (vs.toArray ++ _)[s]? = some v
  rw [Array.getElem?_append_left (by simpa using hlt)]
  simpa using h2
theorem sd_then {y : Code} (h : SD D (y.wp P Q) n l own ro) : SD D (Exit.then (y.wp P Q) Q .normal) n l own ro := h
theorem sd_block {id : Nat} (h : SD D (Q .normal) n l own ro) : SD D (Exit.inBlock id Q .normal) n l own ro := h
theorem sd_seq {x y : Code} (h : SD D (x.wp P (Exit.then (y.wp P Q) Q)) n l own ro) : SD D ((Code.seq x y).wp P Q) n l own ro := fun a w ha hw => wp_seq (h a w ha hw)
theorem sd_ret (h : SD D (Q .ret) n l own ro) : SD D (Code.ret.wp P Q) n l own ro := fun a w ha hw => wp_ret (h a w ha hw)
def SDL (D : Nat) (P : Program) (ops : Array Oper) (Q : Exit → Act → World → Prop) (r : List Oper) (n : Nat) (l : List (Nat × Value)) (own : List (Nat × Obj)) (ro : List Snap) : Prop :=
  SD D (fun a w => wpList P ops Q r a w) n l own ro
theorem sd_region {id : Nat} {lops : List Oper} (h : SDL D P lops.toArray Q lops n l own ro) : SD D ((Code.region id lops.toArray false).wp P Q) n l own ro := fun a w ha hw => wp_region_lit (h a w ha hw)
theorem sdl_val {ops : Array Oper} {d : Nat} {op : Op} {ty : TypeId} {pos : String} {af : Array Edge} {r : List Oper} {v : Value} (hd : decide (d < n) = true) (hv : OpV P n l own ro op ty v) (h : SDL D P ops Q r n ((d, v) :: l) own ro) :
    SDL D P ops Q (⟨some d, op, ty, pos, af, none⟩ :: r) n l own ro := by
  intro a w ha hw
  refine wpList_step fun K hK => ?_
  rw [if_pos (by simp [Region.wanted])]
  have he : (Act.eval { a with defers := [{ target := .collected D, args := #[] }] }) = a.eval := by funext x; cases x <;> rfl
  unfold Oper.wp
  rw [he, hv a w _ ha hw rfl rfl]
  exact hK _ _ (h _ w (ha.put v (of_decide_eq_true hd)) hw)
theorem sdl_end {ops : Array Oper} (h : SD D (Q .normal) n l own ro) : SDL D P ops Q [] n l own ro := h
theorem ret1M {fd : Func} {t : Tmp} {v : Value} (hr : fd.results = #[.tmp t]) (hv : l.lookup t = some v) (h : ∀ w', Mem w' rest ro → R (.returned v) w') : SD D (bodyPostM Fence.wide m P fd R .ret) n l ((D, .deferred (some [])) :: rest) ro := by
  intro a w ha hw
  have hl := hw.own_at _ (.head _)
  have hm2 := (Mem.turn (l1 := []) hw (turned_put (o' := .deferred none) hl)).less (List.sublist_cons_self _ _) (fun _ h => h)
  refine ⟨by simp, .inl ⟨D, _, rfl, run_takeDeferred hl, v, ?_, h _ hm2⟩⟩
  have := ha.at_ t _ hv
  rw [results_tmp hr]
  simp [Array.getD_eq_getD_getElem?, this]
end
end Go.PK

namespace Go.PK
open Go Go.RowKit
def numG (n : Nat) : List UInt8 := if h : n < 128 then [UInt8.ofNat n] else UInt8.ofNat (n % 128 + 128) :: numG (n / 128)
termination_by n
decreasing_by omega
theorem numG_small {n : Nat} (h : n < 128) : numG n = [UInt8.ofNat n] := by rw [numG, dif_pos h]
theorem numG_big {n : Nat} (h : ¬n < 128) : numG n = UInt8.ofNat (n % 128 + 128) :: numG (n / 128) := by rw [numG, dif_neg h]
theorem numG_len : ∀ (k n : Nat), n < 128 ^ (k + 1) → (numG n).length ≤ k + 1
  | 0, n, h => by rw [numG_small (by simpa using h)]; exact Nat.le_refl _
  | k + 1, n, h => by
    by_cases hn : n < 128
    · rw [numG_small hn]; simp
    · rw [numG_big hn, List.length_cons]
      have := numG_len k (n / 128) (by rw [Nat.div_lt_iff_lt_mul (by decide), ← Nat.pow_succ]; exact h)
      omega
theorem numG_ten {n : Nat} (h : n < 18446744073709551616) : (numG n).length ≤ 10 := numG_len 9 n (Nat.lt_of_lt_of_le h (by decide))
theorem numG_pos (n : Nat) : 1 ≤ (numG n).length := by
  by_cases hn : n < 128
  · rw [numG_small hn]; exact Nat.le_refl _
  · rw [numG_big hn, List.length_cons]; omega
theorem or128 {c : Nat} (h : c < 128) : orK .u8 (((UInt8.ofNat c).toNat : Nat) : Int) 128 = ((UInt8.ofNat (c + 128)).toNat : Nat) := by
  have key : ∀ c : Fin 128, orK .u8 (((UInt8.ofNat c.val).toNat : Nat) : Int) 128 = ((UInt8.ofNat (c.val + 128)).toNat : Nat) := by decide +kernel
  exact key ⟨c, h⟩
def sgn (n : Int) : Nat := if 0 ≤ n then (2 * n).toNat else (2 * (-1 - n) + 1).toNat
theorem sgn_lt {n : Int} (h : -9223372036854775808 ≤ n ∧ n ≤ 9223372036854775807) : sgn n < 18446744073709551616 := by unfold sgn; split <;> omega
theorem bv_xor0 (a : Int) : (BitVec.ofInt 64 a ^^^ BitVec.ofInt 64 0).toNat = (BitVec.ofInt 64 a).toNat := by simp
theorem bv_xor1 (a : Int) : (BitVec.ofInt 64 a ^^^ BitVec.ofInt 64 18446744073709551615).toNat = 18446744073709551615 - (BitVec.ofInt 64 a).toNat := by
  rw [show BitVec.ofInt 64 18446744073709551615 = BitVec.allOnes 64 by decide, BitVec.xor_allOnes, BitVec.toNat_not]
theorem xor_sgn {n : Int} (h : -9223372036854775808 ≤ n ∧ n ≤ 9223372036854775807) : xorK .u64 (IntKind.u64.wrap (IntKind.u64.wrap n * 2)) (IntKind.u64.wrap (n / 9223372036854775808)) = (sgn n : Nat) := by
  have w64 : ∀ z : Int, IntKind.u64.wrap z = z % 18446744073709551616 := fun z => by simp [IntKind.wrap, IntKind.bits, IntKind.signed]
  unfold xorK
  rw [w64, w64, w64, w64]
  by_cases h0 : 0 ≤ n
  · have e1 : n / 9223372036854775808 = 0 := by omega
    rw [e1, show (0 : Int) % 18446744073709551616 = 0 by decide]
    show (((BitVec.ofInt 64 _ ^^^ BitVec.ofInt 64 0).toNat : Nat) : Int) % _ = _
    rw [bv_xor0, BitVec.toNat_ofInt]
    unfold sgn
    rw [if_pos h0]
    have e2 : n % 18446744073709551616 * 2 % 18446744073709551616 = 2 * n := by omega
    rw [e2]
    have e3 : (2 * n % ((2 ^ 64 : Nat) : Int)).toNat = (2 * n).toNat := by
      have : ((2 ^ 64 : Nat) : Int) = 18446744073709551616 := by decide
      rw [this]; congr 1; omega
    rw [e3]; omega
  · have e1 : n / 9223372036854775808 = -1 := by omega
    rw [e1, show (-1 : Int) % 18446744073709551616 = 18446744073709551615 by decide]
    show (((BitVec.ofInt 64 _ ^^^ BitVec.ofInt 64 18446744073709551615).toNat : Nat) : Int) % _ = _
    rw [bv_xor1, BitVec.toNat_ofInt]
    unfold sgn
    rw [if_neg h0]
    have e2 : n % 18446744073709551616 * 2 % 18446744073709551616 = 18446744073709551616 + 2 * n := by omega
    rw [e2]
    have e3 : ((18446744073709551616 + 2 * n) % ((2 ^ 64 : Nat) : Int)).toNat = (18446744073709551616 + 2 * n).toNat := by
      have : ((2 ^ 64 : Nat) : Int) = 18446744073709551616 := by decide
      rw [this]; congr 1; omega
    rw [e3]; omega
def intsG (l : List Int) : List UInt8 := numG l.length ++ l.flatMap fun n => numG (sgn n)
def packG (l : List ByteArray) : List UInt8 := numG l.length ++ l.flatMap fun s => numG s.size ++ bl s
def intsT (l : List Int) (k : Nat) : List UInt8 := numG l.length ++ (l.take k).flatMap fun n => numG (sgn n)
def packT (l : List ByteArray) (k : Nat) : List UInt8 := numG l.length ++ (l.take k).flatMap fun s => numG s.size ++ bl s
theorem intsT_zero (l : List Int) : intsT l 0 = numG l.length := by simp [intsT]
theorem packT_zero (l : List ByteArray) : packT l 0 = numG l.length := by simp [packT]
theorem intsT_succ {l : List Int} {k : Nat} (h : k < l.length) : intsT l (k + 1) = intsT l k ++ numG (sgn l[k]) := by
  unfold intsT
  rw [← List.take_append_getElem h, List.flatMap_append, List.append_assoc]; simp
theorem packT_succ {l : List ByteArray} {k : Nat} (h : k < l.length) : packT l (k + 1) = packT l k ++ (numG l[k].size ++ bl l[k]) := by
  unfold packT
  rw [← List.take_append_getElem h, List.flatMap_append, List.append_assoc]; simp
theorem intsT_all (l : List Int) : intsT l l.length = intsG l := by unfold intsT intsG; rw [List.take_length]
theorem packT_all (l : List ByteArray) : packT l l.length = packG l := by unfold packT packG; rw [List.take_length]
theorem intsT_len {l : List Int} (hl : l.length < 18446744073709551616) (h : ∀ n ∈ l, -9223372036854775808 ≤ n ∧ n ≤ 9223372036854775807) : ∀ k, k ≤ l.length → (intsT l k).length ≤ 10 + 10 * k
  | 0, _ => by rw [intsT_zero]; exact numG_ten hl
  | k + 1, hk => by
    have ih := intsT_len hl h k (by omega)
    rw [intsT_succ hk, List.length_append]
    have := numG_ten (sgn_lt (h _ (List.getElem_mem hk)))
    omega
theorem packT_len {l : List ByteArray} {N : Nat} (hl : l.length < 18446744073709551616) (h : ∀ s ∈ l, s.size ≤ N) (hN : N < 18446744073709551616) : ∀ k, k ≤ l.length → (packT l k).length ≤ 10 + (N + 10) * k
  | 0, _ => by rw [packT_zero]; exact numG_ten hl
  | k + 1, hk => by
    have ih := packT_len hl h hN k (by omega)
    rw [packT_succ hk, List.length_append, List.length_append, bl_len]
    have hs := h _ (List.getElem_mem hk)
    have := numG_ten (show l[k].size < 18446744073709551616 by omega)
    rw [Nat.mul_add, Nat.mul_one]
    omega
theorem u64_wrap {n : Int} (h : 0 ≤ n ∧ n < 18446744073709551616) : IntKind.u64.wrap n = n := by
  simp [IntKind.wrap, IntKind.bits, IntKind.signed]; omega
theorem mk_app (a : List UInt8) (s : ByteArray) : (⟨(a ++ bl s).toArray⟩ : ByteArray) = ⟨a.toArray⟩ ++ s := bl_inj (by rw [bl_app, bl_mk (a ++ bl s), bl_mk a])
section
variable {P : Program} {n : Nat} {l : List (Nat × Value)} {own : List (Nat × Obj)} {ro : List Snap} {ty t t' : TypeId} {x y : Operand} {k k' : IntKind} {a b c : Int}
theorem v_convE {td : TypeDesc} (hs : P.underlying t = some td) (hd : P.underlying t' = some (.int k')) (hx : ev l x = some (.int k a)) (hc : k'.wrap a = c) : OpV P n l own ro (.convert t t' x) ty (.int k' c) := hc ▸ v_conv hs hd hx
end
end Go.PK

namespace Go.PK
open Go Go.RowKit
def tkE (p : Pat) (text : ByteArray) (day : Int) : Option Ent × Int :=
  if (!(numsOf (tkA text)).2 || !(numsOf (tkB text)).2) = true then (none, 11) else
  if okDay day then
    match numP p (numsOf (tkA text)).1, numP p (numsOf (tkB text)).1 with
    | some i, some j => if j < i ∨ 100 ≤ j - i then (none, 32) else (some ⟨i, j, tkS text, day⟩, 0)
    | _, _ => (none, 32)
  else (none, 1)
def meets (es : List Ent) (x : Ent) : Bool := es.any fun e => decide (x.fr ≤ e.to) && decide (e.fr ≤ x.to)
theorem takeQ_eq (p : Pat) (es : List Ent) (text : ByteArray) (day : Int) : takeQ p es text day = match (tkE p text day).1 with
    | none => (es, (tkE p text day).2)
    | some x => if meets es x then (es, 22) else (insE es x, 0) := by
  unfold takeQ tkE takeP meets
  by_cases h1 : (!(numsOf (tkA text)).2 || !(numsOf (tkB text)).2) = true
  · rw [if_pos h1, if_pos h1]
  · rw [if_neg h1, if_neg h1]
    by_cases h2 : okDay day
    · rw [if_pos h2, if_pos h2]
      cases h3 : numP p (numsOf (tkA text)).1 with
      | none => rfl
      | some i =>
        cases h4 : numP p (numsOf (tkB text)).1 with
        | none => rfl
        | some j =>
          dsimp only
          by_cases h5 : j < i ∨ 100 ≤ j - i
          · rw [if_pos h5, if_pos h5]
          · rw [if_neg h5, if_neg h5]
    · rw [if_neg h2, if_neg h2]
theorem tkE_ok {p : Pat} {text : ByteArray} {day : Int} {x : Ent} (h : (tkE p text day).1 = some x) : entOK x ∧ (tkE p text day).2 = 0 := by
  unfold tkE at h ⊢
  split at h
  · cases h
  · rename_i h1
    rw [if_neg h1]
    split at h
    · rename_i h2
      rw [if_pos h2]
      cases h3 : numP p (numsOf (tkA text)).1 with
      | none => rw [h3] at h; cases h
      | some i =>
        cases h4 : numP p (numsOf (tkB text)).1 with
        | none => rw [h3, h4] at h; cases h
        | some j =>
          rw [h3, h4] at h
          dsimp only at h ⊢
          split at h
          · cases h
          · rename_i h5
            rw [if_neg h5]
            injection h with h
            have r1 := numP_rng p (numsOf (tkA text)).1
            have r2 := numP_rng p (numsOf (tkB text)).1
            rw [h3] at r1; rw [h4] at r2
            simp only [Option.getD_some] at r1 r2
            rw [← h]
            exact ⟨⟨r1.1, by dsimp only; omega, r2.2, by dsimp only; omega, h2⟩, rfl⟩
    · cases h
def srt (es : List Ent) : Prop := es.Pairwise (fun x y => x.to < y.fr) ∧ ∀ x ∈ es, entOK x
theorem srt_nil : srt [] := ⟨List.Pairwise.nil, fun x hx => by cases hx⟩
theorem entOK.le {x : Ent} (h : entOK x) : x.fr ≤ x.to := h.2.1
theorem meets_no {es : List Ent} {x : Ent} (h : meets es x = false) : ∀ e ∈ es, x.to < e.fr ∨ e.to < x.fr := fun e he => by
  unfold meets at h
  rw [List.any_eq_false] at h
  have := h e he
  simp only [Bool.and_eq_true, decide_eq_true_eq] at this
  omega
theorem ins_parts {es : List Ent} {x : Ent} (hs : srt es) (hx : entOK x) (hm : meets es x = false) : ∃ A B, es = A ++ B ∧ insE es x = A ++ x :: B ∧ (∀ e ∈ A, e.to < x.fr) ∧ ∀ e ∈ B, x.to < e.fr := by
  refine ⟨es.take (insI es x.to), es.drop (insI es x.to), (List.take_append_drop _ _).symm, rfl, fun e he => ?_, fun e he => ?_⟩
  · have h1 := meets_no hm e (List.mem_of_mem_take he)
    rcases h1 with h1 | h1
    · obtain ⟨j, hj, rfl⟩ := List.getElem_of_mem he
      rw [List.length_take] at hj
      rw [List.getElem_take] at h1
      have := List.not_of_lt_findIdx (xs := es) (p := fun e : Ent => decide (x.to < e.fr)) (i := j) (show j < List.findIdx _ es by unfold insI at hj; omega)
      rw [decide_eq_true h1] at this; cases this
    · exact h1
  · have hi := insI_le es x.to
    obtain ⟨j, hj, rfl⟩ := List.getElem_of_mem he
    rw [List.length_drop] at hj
    rw [List.getElem_drop]
    have hlt : insI es x.to < es.length := by omega
    have h0 : x.to < es[insI es x.to].fr := by
      have := List.findIdx_getElem (xs := es) (p := fun e : Ent => decide (x.to < e.fr)) (w := hlt)
      exact of_decide_eq_true this
    by_cases hj0 : j = 0
    · subst hj0; exact h0
    · have h1 := List.pairwise_iff_getElem.1 hs.1 (insI es x.to) (insI es x.to + j) hlt (by omega) (by omega)
      have h2 := (hs.2 _ (List.getElem_mem hlt)).le
      omega
theorem ins_srt {es : List Ent} {x : Ent} (hs : srt es) (hx : entOK x) (hm : meets es x = false) : srt (insE es x) ∧ (insE es x).Perm (x :: es) := by
  obtain ⟨A, B, h1, h2, h3, h4⟩ := ins_parts hs hx hm
  rw [h2]
  have hp : (A ++ x :: B).Perm (x :: es) := by rw [h1]; exact List.perm_middle
  refine ⟨⟨?_, fun e he => ?_⟩, hp⟩
  · have hs1 := hs.1
    rw [h1, List.pairwise_append] at hs1
    rw [List.pairwise_append]
    refine ⟨hs1.1, List.pairwise_cons.2 ⟨h4, hs1.2.1⟩, fun a ha b hb => ?_⟩
    rcases List.mem_cons.1 hb with rfl | hb
    · exact h3 a ha
    · exact hs1.2.2 a ha b hb
  · rcases List.mem_cons.1 (hp.subset he) with rfl | he
    · exact hx
    · exact hs.2 e he
theorem srt_eq : ∀ {a b : List Ent}, srt a → srt b → a.Perm b → a = b
  | [], b, _, _, h => (List.nil_perm.1 h).symm
  | x :: a, [], _, _, h => by simpa using h.length_eq
  | x :: a, y :: b, ha, hb, h => by
    have hxy : x = y := by
      rcases List.mem_cons.1 (h.subset (List.mem_cons_self ..)) with h1 | h1
      · exact h1
      · rcases List.mem_cons.1 (h.symm.subset (List.mem_cons_self ..)) with h2 | h2
        · exact h2.symm
        · have h3 := (List.pairwise_cons.1 hb.1).1 x h1
          have h4 := (List.pairwise_cons.1 ha.1).1 y h2
          have h5 := (ha.2 x (List.mem_cons_self ..)).le
          have h6 := (hb.2 y (List.mem_cons_self ..)).le
          omega
    subst hxy
    rw [srt_eq ⟨(List.pairwise_cons.1 ha.1).2, fun e he => ha.2 e (List.mem_cons_of_mem _ he)⟩ ⟨(List.pairwise_cons.1 hb.1).2, fun e he => hb.2 e (List.mem_cons_of_mem _ he)⟩ h.cons_inv]
structure ActD where
  fr : Int
  to : Int
  day : Int
  sk : Bool
  two : Bool
  raw : ByteArray
def actC (a : ActD) : List Value := [.int .i64 a.fr, .int .i64 a.to, .int .i64 a.day, .bool a.sk, .bool a.two, .string a.raw]
def actIn (a : ActD) : Prop := in64 a.fr ∧ in64 a.to ∧ in64 a.day ∧ a.raw.size ≤ 1048576
def tyAct : Ty ActD where
  size := 6
  rd := fun _ _ cs a => cs = actC a ∧ actIn a
  len := fun h => by rw [h.1]; rfl
  keep := fun h _ => h
theorem act_at {D : Nat → Prop} {w : World} {A : Option Addr} {l c : Nat} {xs : List ActD} (h : sliceRd tyAct D w (.slice A l c) xs) {k : Nat} (hk : k < xs.length) :
    ∃ b off, A = some ⟨b, off, none⟩ ∧ D b ∧ (∀ j (hj : j < (actC xs[k]).length), w.cell? ⟨b, off + k * 6 + j, none⟩ = some (actC xs[k])[j]) ∧ actIn xs[k] := by
  obtain ⟨A', c', e, h1, h2, h3⟩ := h
  injection e with e1 e2 e3
  obtain ⟨b, off, hA, hD, hb, hc⟩ := h3 (by omega)
  obtain ⟨cs, hcs, hr, hok⟩ := hc k hk
  subst hr
  exact ⟨b, off, e1.trans hA, hD, fun j hj => hcs j hj, hok⟩
def callT (p : Pat) (a : ActD) : ByteArray := if a.raw ≠ ⟨#[]⟩ then a.raw else
  if a.two then isT p a.sk (a.fr % 200) ++ ⟨#[45]⟩ ++ txN (numsP p (a.to % 320)) else isT p a.sk (a.fr % 200)
def callD (p : Pat) (a : ActD) : Int := IntKind.i64.wrap (p.first + a.day)
theorem txN_sz {p : Pat} (h : rightQ p) {k : Int} (h0 : 0 ≤ k) (hk : k ≤ 2000000) : (txN (numsP p k)).size ≤ 88 := by
  have hz := txTo_sz (nums_in64 h h0 hk) _ (Nat.le_refl _)
  have h4 := (nums_tx h h0 hk).2.1
  unfold txN; omega
theorem isT_sz {p : Pat} (h : rightQ p) {k : Int} (h0 : 0 ≤ k) (hk : k ≤ 2000000) (sk : Bool) : (isT p sk k).size ≤ 89 := by
  have := txN_sz h h0 hk
  unfold isT
  split
  · rw [ByteArray.size_append, show (⟨#[120]⟩ : ByteArray).size = 1 from rfl]; omega
  · omega
theorem callT_sz {p : Pat} (h : rightQ p) {a : ActD} (ha : actIn a) : (callT p a).size ≤ 1048576 := by
  have e1 := Int.emod_nonneg a.fr (show (200 : Int) ≠ 0 by decide)
  have e2 := Int.emod_lt_of_pos a.fr (show (0 : Int) < 200 by decide)
  have e3 := Int.emod_nonneg a.to (show (320 : Int) ≠ 0 by decide)
  have e4 := Int.emod_lt_of_pos a.to (show (0 : Int) < 320 by decide)
  have s1 := isT_sz h e1 (by omega) a.sk
  have s2 := txN_sz h e3 (by omega)
  unfold callT
  split
  · exact ha.2.2.2
  · split
    · rw [ByteArray.size_append, ByteArray.size_append, show (⟨#[45]⟩ : ByteArray).size = 1 from rfl]; omega
    · omega
theorem callD_in (p : Pat) (a : ActD) : in64 (callD p a) := by unfold callD in64; rw [IntKind.wrap_i64]; omega
def entA (p : Pat) (a : ActD) : Option Ent := (tkE p (callT p a) (callD p a)).1
structure Of (p : Pat) (es : List Ent) (gs : List ActD) : Prop where
  srt : srt es
  all : ∀ a ∈ gs, (entA p a).isSome = true
  perm : es.Perm (gs.filterMap (entA p))
theorem Of.nil (p : Pat) : Of p [] [] := ⟨srt_nil, (fun a ha => by cases ha), List.Perm.refl _⟩
theorem apart_of_srt {es : List Ent} (h : srt es) : es.Pairwise fun x y => x.to < y.fr ∨ y.to < x.fr := h.1.imp fun h => .inl h
theorem Of.next {p : Pat} {es es2 : List Ent} {gs g2 : List ActD} (h : Of p es gs) (hp : g2.Perm gs) {k : Nat} (hk : k < g2.length) (h2 : Of p es2 (g2.take k)) : ∃ x, entA p g2[k] = some x ∧ meets es2 x = false ∧ entOK x := by
  have hs : (entA p g2[k]).isSome = true := h.all _ (hp.subset (List.getElem_mem hk))
  obtain ⟨x, hx⟩ := Option.isSome_iff_exists.1 hs
  refine ⟨x, hx, ?_, (tkE_ok hx).1⟩
  have hap : (g2.filterMap (entA p)).Pairwise fun x y => x.to < y.fr ∨ y.to < x.fr :=
    ((apart_of_srt h.srt).perm h.perm (fun h => h.symm)).perm ((hp.symm).filterMap _) (fun h => h.symm)
  have e : g2 = g2.take k ++ g2[k] :: g2.drop (k + 1) := by rw [List.getElem_cons_drop, List.take_append_drop]
  rw [e, List.filterMap_append, List.filterMap_cons, hx, List.pairwise_append] at hap
  cases hm : meets es2 x with
  | false => rfl
  | true =>
    unfold meets at hm
    rw [List.any_eq_true] at hm
    obtain ⟨y, hy, hc⟩ := hm
    rw [Bool.and_eq_true, decide_eq_true_eq, decide_eq_true_eq] at hc
    have := hap.2.2 y (h2.perm.subset hy) x (List.mem_cons_self ..)
    omega
theorem Of.same {p : Pat} {es es2 : List Ent} {gs g2 : List ActD} (h : Of p es gs) (hp : g2.Perm gs) (h2 : Of p es2 g2) : es2 = es :=
  srt_eq h2.srt h.srt (h2.perm.trans ((hp.filterMap _).trans h.perm.symm))
def entI (x : Ent) : List Int := [x.fr, x.to, if x.sk then 1 else 0, x.day]
def entsI (l : List Ent) : List Int := l.flatMap entI
noncomputable def encQ (p : Pat) (es : List Ent) : ByteArray := ⟨(packG [writeQ p, ⟨(intsG (entsI es)).toArray⟩]).toArray⟩
theorem entsI_len (l : List Ent) : (entsI l).length = l.length * 4 := by
  induction l with
  | nil => rfl
  | cons x xs ih => show (entI x ++ entsI xs).length = _; rw [List.length_append, ih, List.length_cons]; show 4 + _ = _; omega
theorem entsI_snoc {l : List Ent} {k : Nat} (h : k < l.length) : entsI (l.take (k + 1)) = entsI (l.take k) ++ entI l[k] := by
  unfold entsI
  rw [← List.take_append_getElem h, List.flatMap_append]; simp
theorem entsI_in {l : List Ent} (h : ∀ x ∈ l, entIn x) : ∀ d ∈ entsI l, in64 d := fun d hd => by
  obtain ⟨x, hx, hd⟩ := List.mem_flatMap.1 hd
  obtain ⟨h1, h2, h3⟩ := h x hx
  simp only [entI, List.mem_cons, List.mem_nil_iff, or_false] at hd
  rcases hd with rfl | rfl | rfl | rfl
  · exact h1
  · exact h2
  · split <;> (unfold in64; decide)
  · exact h3
end Go.PK

namespace Go.PK
open Go Go.RowKit
def nsR (s : ByteArray) : Nat → Nat → List Int → List Int × Nat × Bool
  | 0, i, _ => ([], i, false)
  | f + 1, i, out => if (!(valR s i).2.2 || decide (out.length = 4)) = true then ([], i, false) else
      if (valR s i).2.1 = s.size ∨ (bl s)[(valR s i).2.1]? ≠ some 47 then (out ++ [(valR s i).1], (valR s i).2.1, true) else nsR s f ((valR s i).2.1 + 1) (out ++ [(valR s i).1])
def rAt (s : ByteArray) : Nat := if tkS s then 1 else 0
def rA (s : ByteArray) := nsR s 5 (rAt s) []
def rDash (s : ByteArray) : Bool := (rA s).2.2 && decide ((rA s).2.1 < s.size) && decide ((bl s)[(rA s).2.1]? = some 45)
def rB (s : ByteArray) := if rDash s then nsR s 5 ((rA s).2.1 + 1) [] else rA s
end Go.PK

namespace Go.PK
open Go Go.RowKit
section
variable {p : Pat} {es : List Ent} {text : ByteArray} {day : Int}
end
theorem rowOK.cap {size : Nat} {R : RowS} {n : Nat} {xs : List Value} (h : rowOK size R n xs) : n ≤ rowC R := by
  cases R with
  | none => have := h.2; simp only at this; omega
  | some r => exact h.2.1
end Go.PK

namespace Go.PK
open Go Go.RowKit
section
variable {p : Pat} {es : List Ent} {d last day : Int}
end
end Go.PK

namespace Go.PK
open Go Go.RowKit
end Go.PK

namespace Go.PK
open Go Go.RowKit
section
variable {P : Program} {n : Nat} {l : List (Nat × Value)} {own : List (Nat × Obj)} {ro : List Snap} {ty t t' : TypeId} {x y : Operand} {k k' : IntKind} {a b c : Int}
end
end Go.PK

namespace Go.PK
open Go Go.RowKit
end Go.PK

namespace Go.PK
open Go Go.RowKit
end Go.PK

namespace Go.PK
open Go Go.RowKit
section
variable {P : Program} {m n : Nat} {l : List (Nat × Value)} {own rest : List (Nat × Obj)} {ro : List Snap} {Q : Exit → Act → World → Prop} {R : Ending → World → Prop} {L : Nat} {fn : FuncId} {tmps : Array Value} {assign body : Code} {D : Nat}
end
section
variable {P : Program} {m n : Nat} {l : List (Nat × Value)} {own : List (Nat × Obj)} {ro : List Snap} {Q : Exit → Act → World → Prop}
end
end Go.PK

namespace Go.PK
open Go Go.RowKit
section
variable {P : Program} {oF : List (Nat × Obj)} {rF : List Snap}
end
section
variable {P : Program} {m n : Nat} {l : List (Nat × Value)} {own : List (Nat × Obj)} {ro : List Snap} {F : Fence} {Q : Exit → Act → World → Prop}
end
end Go.PK

namespace Go.PK
open Go Go.RowKit
end Go.PK

namespace Go.PK
open Go Go.RowKit
section
variable {P : Program} {n : Nat} {l : List (Nat × Value)} {own oF : List (Nat × Obj)} {ro rF : List Snap} {lops : List Oper} {Q : Exit → Act → World → Prop} {K : Act → World → Prop} {i d : Nat} {t e : Pl} {op : Op} {ty : TypeId} {pos : String} {af : Array Edge}
theorem k_run {o : Oper} (ho : lops[i]? = some o) (hgo : Go_ lops n l o) (hd0 : o.dst = some d) (hd : decide (d < n) = true) {v : Value} (hv : OpV P n l oF rF o.op o.type v)
    (h : S (wpJ P lops.toArray oF rF K t) n ((d, v) :: l) own ro) : S (wpJ P lops.toArray oF rF K (.flt i t)) n l own ro := fun a w ha hw => by
  have hd' : d < n := of_decide_eq_true hd
  unfold wpJ
  simp only [List.getElem?_toArray, ho]
  rw [if_pos (hgo a ha)]
  refine ⟨v, fun w' hw' => ?_, by rw [hd0]; exact h _ w (ha.put v hd') hw⟩
  unfold fltAt
  rw [hv a w' _ ha hw' rfl rfl]
  exact ⟨rfl, rfl⟩
theorem k_val (ho : lops[i]? = some ⟨some d, op, ty, pos, af, none⟩) (hd : decide (d < n) = true) {v : Value} (hv : OpV P n l oF rF op ty v)
    (h : S (wpJ P lops.toArray oF rF K t) n ((d, v) :: l) own ro) : S (wpJ P lops.toArray oF rF K (.flt i t)) n l own ro := k_run ho (go_none rfl) rfl hd hv h
theorem k_gr (h : WX P lops.toArray (fun _ _ _ => False) (fun a w => Mem w oF rF ∧ wpJ P lops.toArray oF rF K t a w) [(none, i)] n l own ro) (he : S (wpJ P lops.toArray oF rF K e) n l own ro) : S (wpJ P lops.toArray oF rF K (.gr i t e)) n l own ro := fun a w ha hw => by
  have h := h a w ha hw
  unfold wpJ
  refine ⟨?_, he a w ha hw⟩
  simp only [wpX] at h
  split <;> rename_i ho <;> simp only [ho] at h
  split <;> rename_i hw'
  · intro w2 h2
    have h := h w2 h2
    rw [if_pos hw'] at h
    exact Oper.wp_mono (fun a' w' hk => hk w' (Later.refl _)) h
  · have h := h w (Later.refl _)
    rw [if_neg hw'] at h
    exact (h w (Later.refl _)).2
theorem k_end (hsub : oF.Sublist own) (hro : ∀ s ∈ rF, s ∈ ro) (h : S (wpJ P lops.toArray oF rF K t) n l own ro) : S (fun a w => Mem w oF rF ∧ wpJ P lops.toArray oF rF K t a w) n l own ro := fun a w ha hw => ⟨hw.less hsub hro, h a w ha hw⟩
theorem k_nil : S (wpJ P lops.toArray oF rF K .nil) n l own ro := fun _ _ _ _ => trivial
theorem k_done {m : Nat} (h : WX P lops.toArray Q (fun a w => Q .normal a w) (tailFrom m lops.length) n l own ro) :
    S (wpJ P lops.toArray oF rF (fun a' w' => ∀ w'', Later w' w'' → wpList P lops.toArray Q (lops.drop m) a' w'') .done) n l own ro :=
  fun a w ha hw w2 h2 => wpList_of_X _ m a w2 rfl (wpX_later h2 (h a w ha hw))
end
end Go.PK

namespace Go.PK
open Go Go.RowKit
structure SerRdD (D : Nat → Prop) (w : World) (b : Nat) (p : Pat) (es : List Ent) (v1 v2 v3 : Value) : Prop where
  blk : D b
  cells : ∀ j (hj : j < [Value.int .i64 p.first, Value.int .i64 p.days, v1, v2, v3].length), w.cell? ⟨b, j, none⟩ = some [Value.int .i64 p.first, Value.int .i64 p.days, v1, v2, v3][j]
  lvs : sliceRd tyI D w v1 p.lv
  sts : sliceRd tyI D w v2 p.st
  fst : in64 p.first
  dys : in64 p.days
  ent : sliceRd tyEnt D w v3 es
theorem SerRdD.keep {D D' : Nat → Prop} {w w' : World} {b : Nat} {p : Pat} {es : List Ent} {v1 v2 v3 : Value} (h : SerRdD D w b p es v1 v2 v3) (hk : Kept D D' w w') : SerRdD D' w' b p es v1 v2 v3 := by
  have hb : b < w.heap.size := cell_lt (p := ⟨b, 0, none⟩) (h.cells 0 (by show 0 < 5; decide))
  obtain ⟨h1, h2⟩ := hk b h.blk hb
  exact ⟨h1, fun j hj => (cell_keep h2).trans (h.cells j hj), h.lvs.keep hk, h.sts.keep hk, h.fst, h.dys, h.ent.keep hk⟩
theorem SerRdD.rd {D : Nat → Prop} {w : World} {b : Nat} {p : Pat} {es : List Ent} {v1 v2 v3 : Value} (h : SerRdD D w b p es v1 v2 v3) : SerRd w b p es v1 v2 v3 := by
  have h' := h.keep (D' := fun _ => True) (w' := w) (fun k hk hlt => ⟨trivial, rfl⟩)
  exact ⟨h'.cells, h'.lvs, h'.sts, h'.fst, h'.dys, h'.ent⟩
theorem SerRdD.new {wa wb w1 : World} {own own1 : List (Nat × Obj)} {ro ro1 : List Snap} {b : Nat} {p : Pat} {es : List Ent} {v1 v2 v3 : Value} (h : SerRdD (fun b => wa.heap.size ≤ b) wb b p es v1 v2 v3) (hw1 : Mem w1 own1 ro1) (hs : (wb, notOwn own) ∈ ro1) (hm : Mem wa own ro) : SerRd w1 b p es v1 v2 v3 :=
  (h.keep (D' := fun _ => True) (w' := w1) fun k hk hlt => ⟨trivial, hw1.ro_at _ hs k (fun p hp he => by have := hm.lt hp; omega) hlt⟩).rd
end Go.PK

namespace Go.PK
open Go Go.RowKit
theorem Mem.claim {w : World} {own BL : List (Nat × Obj)} {ro ro' : List Snap} (h : Mem w own ro) (hnd : (BL.map (·.1)).Nodup) (hB : ∀ q ∈ BL, ∃ s ∈ ro, s.2 q.1 ∧ s.1.heap[q.1]? = some q.2)
    (hr : ∀ s' ∈ ro', ∃ s ∈ ro, s'.1 = s.1 ∧ (∀ k, s'.2 k → s.2 k) ∧ ∀ q ∈ BL, s'.2 q.1 → s.1.heap.size ≤ q.1) : Mem w (BL ++ own) ro' where
  own_at := fun p hp => by
    rcases List.mem_append.1 hp with hp | hp
    · obtain ⟨s, hs, h1, h2⟩ := hB p hp
      exact (h.ro_at s hs _ h1 (heap_lt h2)).trans h2
    · exact h.own_at p hp
  own_nd := by
    rw [List.map_append, List.nodup_append]
    refine ⟨hnd, h.own_nd, fun a ha b hb e => ?_⟩
    subst e
    obtain ⟨p, hp, rfl⟩ := List.mem_map.1 ha
    obtain ⟨q, hq, e⟩ := List.mem_map.1 hb
    obtain ⟨s, hs, h1, h2⟩ := hB p hp
    have h3 := h.apart q hq s hs (by rw [e]; exact h1)
    have h4 := heap_lt h2
    omega
  ro_st := fun s' hs' => by
    obtain ⟨s, hs, e, _, _⟩ := hr s' hs'
    rw [e]; exact h.ro_st s hs
  ro_at := fun s' hs' k hk hlt => by
    obtain ⟨s, hs, e, h1, _⟩ := hr s' hs'
    rw [e] at hlt ⊢
    exact h.ro_at s hs k (h1 k hk) hlt
  apart := fun p hp s' hs' hd => by
    obtain ⟨s, hs, e, h1, h2⟩ := hr s' hs'
    rw [e]
    rcases List.mem_append.1 hp with hp | hp
    · exact h2 p hp hd
    · exact h.apart p hp s hs (h1 _ hd)
def rowW (D : Nat → Prop) (w : World) (v : Value) (n : Nat) : Prop := ∃ A c, v = .slice A n c ∧ n ≤ 9223372036854775807 ∧ (0 < n → ∃ b off cs e, A = some ⟨b, off, none⟩ ∧ D b ∧ w.heap[b]? = some (.cells cs e (0, 0)) ∧ off + n ≤ cs.size ∧ ∀ j, j < n → ∃ z, cs[off + j]? = some (.int .i64 z))
theorem rowW.keep {D D' : Nat → Prop} {w w' : World} {v : Value} {n : Nat} (h : rowW D w v n) (hk : Kept D D' w w') : rowW D' w' v n := by
  obtain ⟨A, c, e, hbd, h1⟩ := h
  refine ⟨A, c, e, hbd, fun h0 => ?_⟩
  obtain ⟨b, off, cs, e, hA, hD, hb, ho, hc⟩ := h1 h0
  obtain ⟨h2, h3⟩ := hk b hD (heap_lt hb)
  exact ⟨b, off, cs, e, hA, h2, h3.trans hb, ho, hc⟩
def sliceW (D : Nat → Prop) (w : World) (v : Value) (xs : List Int) : Prop := sliceRd tyI D w v xs ∧ rowW D w v xs.length
theorem sliceW.keep {D D' : Nat → Prop} {w w' : World} {v : Value} {xs : List Int} (h : sliceW D w v xs) (hk : Kept D D' w w') : sliceW D' w' v xs := ⟨h.1.keep hk, h.2.keep hk⟩
theorem sliceW_own {D : Nat → Prop} {w : World} {own : List (Nat × Obj)} {ro : List Snap} {e : TypeId} {r : RowS} {ds : List Int} {n : Nat} (hr : rowOK 1 r n (ds.map (Value.int .i64))) (hn : n = ds.length) (hi : ∀ d ∈ ds, in64 d) (hm : Mem w own ro) (hin : ∀ p ∈ rowO e r, p ∈ own) (hD : ∀ p ∈ rowO e r, D p.1) : sliceW D w (rowV r n) ds := by
  have hrd := rowI_rd (e := e) hr hn hi hm hin hD
  refine ⟨hrd, ?_⟩
  obtain ⟨_, _, _, _, hbd, _⟩ := hrd
  subst hn
  refine ⟨rowA r, rowC r, rfl, hbd, fun h0 => ?_⟩
  cases r with
  | none => have := hr.2; simp only at this; omega
  | some x =>
    obtain ⟨b, cs, c⟩ := x
    obtain ⟨h1, h2, h3, h4, h5⟩ := hr
    dsimp only at h2 h3 h4 h5
    refine ⟨b, 0, cs.toArray, e, rfl, hD _ (.head _), hm.own_at _ (hin _ (.head _)), by simp only [List.size_toArray]; omega, fun j hj => ⟨ds[j], ?_⟩⟩
    have h6 : (cs.take (ds.length * 1))[j]? = some (.int .i64 ds[j]) := by rw [h5, List.getElem?_map, List.getElem?_eq_getElem hj]; rfl
    rw [List.getElem?_take, if_pos (by omega)] at h6
    rw [Nat.zero_add, List.getElem?_toArray]
    exact h6
def tyIssW : Ty Iss where
  size := 2
  rd := fun D w cs x => ∃ v, cs = [v, .int .i64 x.day] ∧ sliceW D w v x.nums ∧ in64 x.day
  len := fun ⟨v, h, _⟩ => by rw [h]; rfl
  keep := fun ⟨v, h, h1, h2⟩ k => ⟨v, h, h1.keep k, h2⟩
theorem blocks_of {w : World} : ∀ bs : List Nat, (∀ b ∈ bs, ∃ cs e, w.heap[b]? = some (.cells cs e (0, 0))) → ∃ BL : List (Nat × List Value × TypeId), (BL.map (·.1)).Nodup ∧ (∀ q ∈ BL, q.1 ∈ bs ∧ w.heap[q.1]? = some (.cells q.2.1.toArray q.2.2 (0, 0))) ∧ ∀ b ∈ bs, ∃ q ∈ BL, q.1 = b
  | [], _ => ⟨[], List.nodup_nil, (fun q hq => by cases hq), (fun b hb => by cases hb)⟩
  | b :: bs, h => by
    obtain ⟨BL, h1, h2, h3⟩ := blocks_of bs (fun x hx => h x (List.mem_cons_of_mem _ hx))
    by_cases hb : ∃ q ∈ BL, q.1 = b
    · exact ⟨BL, h1, fun q hq => ⟨List.mem_cons_of_mem _ (h2 q hq).1, (h2 q hq).2⟩, fun x hx => by
        rcases List.mem_cons.1 hx with rfl | hx
        · exact hb
        · exact h3 x hx⟩
    · obtain ⟨cs, e, hc⟩ := h b (List.mem_cons_self ..)
      refine ⟨(b, cs.toList, e) :: BL, ?_, fun q hq => ?_, fun x hx => ?_⟩
      · rw [List.map_cons, List.nodup_cons]
        refine ⟨fun hm => ?_, h1⟩
        obtain ⟨q, hq, e⟩ := List.mem_map.1 hm
        exact hb ⟨q, hq, e⟩
      · rcases List.mem_cons.1 hq with rfl | hq
        · exact ⟨List.mem_cons_self .., by simpa using hc⟩
        · exact ⟨List.mem_cons_of_mem _ (h2 q hq).1, (h2 q hq).2⟩
      · rcases List.mem_cons.1 hx with rfl | hx
        · exact ⟨_, List.mem_cons_self .., rfl⟩
        · obtain ⟨q, hq, e⟩ := h3 x hx
          exact ⟨q, List.mem_cons_of_mem _ hq, e⟩
def blk (q : Nat × List Value × TypeId) : Nat × Obj := (q.1, .cells q.2.1.toArray q.2.2 (0, 0))
def hasW (BL : List (Nat × List Value × TypeId)) (v : Value) (n : Nat) : Prop := ∃ A c, v = .slice A n c ∧ n ≤ 9223372036854775807 ∧ (0 < n → ∃ q ∈ BL, ∃ off, A = some ⟨q.1, off, none⟩ ∧ off + n ≤ q.2.1.length ∧ ∀ j, j < n → ∃ z, q.2.1[off + j]? = some (.int .i64 z))
def putB (q : Nat × List Value × TypeId) (i : Nat) (z : Int) : Nat × List Value × TypeId := (q.1, q.2.1.take i ++ (Value.int .i64 z).cells.toList ++ q.2.1.drop (i + 1), q.2.2)
theorem putB_len {q : Nat × List Value × TypeId} {i : Nat} {z : Int} (h : i < q.2.1.length) : (putB q i z).2.1.length = q.2.1.length := by
  show (q.2.1.take i ++ [Value.int .i64 z] ++ q.2.1.drop (i + 1)).length = _
  rw [List.length_append, List.length_append, List.length_take, List.length_drop]
  simp only [List.length_cons, List.length_nil]
  omega
theorem putB_at {q : Nat × List Value × TypeId} {i j : Nat} {z : Int} (h : i < q.2.1.length) (hj : ∃ u, q.2.1[j]? = some (.int .i64 u)) : ∃ u, (putB q i z).2.1[j]? = some (.int .i64 u) := by
  show ∃ u, (q.2.1.take i ++ [Value.int .i64 z] ++ q.2.1.drop (i + 1))[j]? = some (.int .i64 u)
  have hl : (q.2.1.take i).length = i := by rw [List.length_take]; omega
  rw [List.append_assoc]
  rcases Nat.lt_trichotomy j i with h1 | rfl | h1
  · rw [List.getElem?_append_left (by omega), List.getElem?_take, if_pos h1]; exact hj
  · rw [List.getElem?_append_right (by omega), hl, Nat.sub_self]; exact ⟨z, rfl⟩
  · rw [List.getElem?_append_right (by omega), hl, List.singleton_append]
    obtain ⟨m, hm⟩ : ∃ m, j - i = m + 1 := ⟨j - i - 1, by omega⟩
    rw [hm, List.getElem?_cons_succ, List.getElem?_drop, show i + 1 + m = j by omega]; exact hj
theorem hasW.put {B1 B2 : List (Nat × List Value × TypeId)} {q : Nat × List Value × TypeId} {i : Nat} {z : Int} (hi : i < q.2.1.length) {v : Value} {n : Nat} (h : hasW (B1 ++ q :: B2) v n) : hasW (B1 ++ putB q i z :: B2) v n := by
  obtain ⟨A, c, e, hbd, h1⟩ := h
  refine ⟨A, c, e, hbd, fun h0 => ?_⟩
  obtain ⟨q', hq', off, hA, hl, hj⟩ := h1 h0
  rcases List.mem_append.1 hq' with hq' | hq'
  · exact ⟨q', List.mem_append_left _ hq', off, hA, hl, hj⟩
  · rcases List.mem_cons.1 hq' with rfl | hq'
    · exact ⟨putB q' i z, List.mem_append_right _ (List.mem_cons_self ..), off, hA, by rw [putB_len hi]; exact hl, fun j hjn => putB_at hi (hj j hjn)⟩
    · exact ⟨q', List.mem_append_right _ (List.mem_cons_of_mem _ hq'), off, hA, hl, hj⟩
theorem hasW_of {D : Nat → Prop} {w : World} (vs : List (Value × Nat)) (h : ∀ x ∈ vs, rowW D w x.1 x.2) : ∃ BL : List (Nat × List Value × TypeId), (BL.map (·.1)).Nodup ∧ (∀ q ∈ BL, D q.1 ∧ w.heap[q.1]? = some (blk q).2) ∧ ∀ x ∈ vs, hasW BL x.1 x.2 := by
  have key : ∃ bs : List Nat, (∀ b ∈ bs, D b ∧ ∃ cs e, w.heap[b]? = some (.cells cs e (0, 0))) ∧ ∀ x ∈ vs, 0 < x.2 → ∀ b off c, x.1 = .slice (some ⟨b, off, none⟩) x.2 c → b ∈ bs := by
    induction vs with
    | nil => exact ⟨[], (fun b hb => by cases hb), (fun x hx => by cases hx)⟩
    | cons x vs ih =>
      obtain ⟨bs, h1, h2⟩ := ih (fun y hy => h y (List.mem_cons_of_mem _ hy))
      obtain ⟨A, c, e, hbd, h3⟩ := h x (List.mem_cons_self ..)
      by_cases h0 : 0 < x.2
      · obtain ⟨b, off, cs, te, hA, hD, hb, _⟩ := h3 h0
        refine ⟨b :: bs, fun y hy => ?_, fun y hy hy0 b' off' c' e' => ?_⟩
        · rcases List.mem_cons.1 hy with rfl | hy
          · exact ⟨hD, cs, te, hb⟩
          · exact h1 y hy
        · rcases List.mem_cons.1 hy with rfl | hy
          · rw [e, hA] at e'
            injection e' with e1
            injection e1 with e1
            injection e1 with e1
            rw [← e1]; exact List.mem_cons_self ..
          · exact List.mem_cons_of_mem _ (h2 y hy hy0 b' off' c' e')
      · refine ⟨bs, h1, fun y hy hy0 b' off' c' e' => ?_⟩
        rcases List.mem_cons.1 hy with rfl | hy
        · exact absurd hy0 h0
        · exact h2 y hy hy0 b' off' c' e'
  obtain ⟨bs, h1, h2⟩ := key
  obtain ⟨BL, k1, k2, k3⟩ := blocks_of (w := w) bs (fun b hb => (h1 b hb).2)
  refine ⟨BL, k1, fun q hq => ⟨(h1 _ (k2 q hq).1).1, (k2 q hq).2⟩, fun x hx => ?_⟩
  obtain ⟨A, c, e, hbd, h3⟩ := h x hx
  refine ⟨A, c, e, hbd, fun h0 => ?_⟩
  obtain ⟨b, off, cs, te, hA, hD, hb, ho, hc⟩ := h3 h0
  obtain ⟨q, hq, hqb⟩ := k3 b (h2 x hx h0 b off c (by rw [e, hA]))
  have h4 := (k2 q hq).2
  rw [hqb, hb] at h4
  injection h4 with h4
  injection h4 with h5 h6 h7
  refine ⟨q, hq, off, by rw [hA, hqb], by rw [h5] at ho; simpa using ho, fun j hj => ?_⟩
  obtain ⟨z, hz⟩ := hc j hj
  rw [h5, List.getElem?_toArray] at hz
  exact ⟨z, hz⟩
theorem row_any {size n : Nat} {e : TypeId} {R : RowS} {xs : List Value} {own : List (Nat × Obj)} {ro : List Snap} {w : World} (hR : rowOK size R n xs) (hm : Mem w own ro) (hin : ∀ p ∈ rowO e R, p ∈ own) {j : Nat} {a : Addr} (ha : rowA R = some a) {u : Value} (hu : xs[j]? = some u) : w.cell? (a.add j) = some u := by
  have hj := (List.getElem?_eq_some_iff.1 hu).1
  obtain ⟨b, cs, c, rfl, hc⟩ := hR.cell hj
  have ha' : (⟨b, 0, none⟩ : Addr) = a := Option.some.inj ha
  subst ha'
  rw [mk_add, Nat.zero_add, hm.cell_own (b := b) (hin _ (.head _)) j, List.getElem?_toArray, hc, ← hu, List.getElem?_eq_getElem hj]
theorem blk_nd {BL : List (Nat × List Value × TypeId)} (h : (BL.map (·.1)).Nodup) : ((BL.map blk).map (·.1)).Nodup := by
  rw [List.map_map]; exact h
theorem hasW_at {BL : List (Nat × List Value × TypeId)} {A : Option Addr} {n c k : Nat} (h : hasW BL (.slice A n c) n) (hk : k < n) : ∃ B1 q B2 off z, BL = B1 ++ q :: B2 ∧ A = some ⟨q.1, off, none⟩ ∧ off + k < q.2.1.length ∧ q.2.1[off + k]? = some (.int .i64 z) := by
  obtain ⟨A', c', e, hbd, h1⟩ := h
  injection e with e1 e2 e3
  obtain ⟨q, hq, off, hA, hl, hz⟩ := h1 (by omega)
  obtain ⟨z, hz⟩ := hz k hk
  obtain ⟨B1, B2, hB⟩ := List.append_of_mem hq
  exact ⟨B1, q, B2, off, z, hB, e1.trans hA, by omega, hz⟩
def vnC (x : Value × Nat × Int) : List Value := [x.1, .int .i64 x.2.2]
def vnsC (l : List (Value × Nat × Int)) : List Value := l.flatMap vnC
theorem vnsC_len (l : List (Value × Nat × Int)) : (vnsC l).length = l.length * 2 := by
  induction l with
  | nil => rfl
  | cons x xs ih => show (vnC x ++ vnsC xs).length = _; rw [List.length_append, ih, List.length_cons]; show 2 + _ = _; omega
theorem vnsC_drop : ∀ (l : List (Value × Nat × Int)) (i : Nat), (vnsC l).drop (i * 2) = vnsC (l.drop i)
  | _, 0 => by simp
  | [], i + 1 => by simp [vnsC]
  | x :: xs, i + 1 => by
    show (vnC x ++ vnsC xs).drop _ = vnsC (xs.drop i)
    rw [← vnsC_drop xs i, Nat.add_mul, Nat.add_comm, ← List.drop_drop]; rfl
theorem vnsC_at {l : List (Value × Nat × Int)} {k : Nat} (h : k < l.length) {j : Nat} (hj : j < (vnC l[k]).length) : (vnsC l)[k * 2 + j]? = some (vnC l[k])[j] := by
  have e : (vnsC l)[k * 2 + j]? = ((vnsC l).drop (k * 2))[j]? := by rw [List.getElem?_drop]
  rw [e, vnsC_drop, List.drop_eq_getElem_cons h]
  show (vnC l[k] ++ vnsC (l.drop (k + 1)))[j]? = _
  rw [List.getElem?_append_left hj, List.getElem?_eq_getElem hj]
theorem vn_of {D : Nat → Prop} {w : World} : ∀ css : List (List Value), (∀ c ∈ css, ∃ v n d, c = [v, .int .i64 d] ∧ rowW D w v n) → ∃ vn : List (Value × Nat × Int), css.flatten = vnsC vn ∧ vn.length = css.length ∧ ∀ x ∈ vn, rowW D w x.1 x.2.1
  | [], _ => ⟨[], rfl, rfl, (fun x hx => by cases hx)⟩
  | c :: css, h => by
    obtain ⟨vn, h1, h2, h3⟩ := vn_of css (fun x hx => h x (List.mem_cons_of_mem _ hx))
    obtain ⟨v, n, d, rfl, hw⟩ := h c (List.mem_cons_self ..)
    refine ⟨(v, n, d) :: vn, ?_, by rw [List.length_cons, List.length_cons, h2], fun x hx => ?_⟩
    · rw [List.flatten_cons, h1]; rfl
    · rcases List.mem_cons.1 hx with rfl | hx
      · exact hw
      · exact h3 x hx
theorem vns_one {D : Nat → Prop} {w : World} {vn : List (Value × Nat × Int)} (h : ∀ x ∈ vn, rowW D w x.1 x.2.1) : (vnsC vn).all (fun u => u.oneCell') = true := by
  rw [List.all_eq_true]; intro u hu
  obtain ⟨x, hx, hu⟩ := List.mem_flatMap.1 hu
  obtain ⟨A, c, e, _⟩ := h x hx
  simp only [vnC, List.mem_cons, List.mem_nil_iff, or_false] at hu
  rcases hu with rfl | rfl
  · rw [e]; rfl
  · rfl
theorem rowV_at {n b c k : Nat} {cs : List Value} {vn : List (Value × Nat × Int)} (h : rowOK 2 (some (b, cs, c)) n (vnsC vn)) (hn : vn.length = n) (hk : k < vn.length) {j : Nat} (hj : j < (vnC vn[k]).length) : cs[0 + k * 2 + j]? = some (vnC vn[k])[j] := by
  obtain ⟨h1, h2, h3, h4, h5⟩ := h
  dsimp only at h2 h3 h4 h5
  have hj6 : j < 2 := hj
  rw [Nat.zero_add, ← vnsC_at hk hj, ← h5, List.getElem?_take, if_pos (by omega)]
theorem made_two {w76 w76' w81 w81' : World} {own : List (Nat × Obj)} {ro : List Snap} {e : TypeId} {Rh Rm : RowS} {xs ys : List Iss} (hm1 : Mem w76 own ro) (hm2 : Mem w81 own ((w76', notOwn own) :: ro)) (hl1 : Later w76 w76') (hl2 : Later w81 w81')
    (h1 : ∀ q ∈ rowO e Rh, w76'.heap[q.1]? = some q.2 ∧ w76.heap.size ≤ q.1) (h2 : RowT tyIssW (newD w76 (rowO e Rh)) w76' Rh xs)
    (k1 : ∀ q ∈ rowO e Rm, w81'.heap[q.1]? = some q.2 ∧ w81.heap.size ≤ q.1) (k2 : RowT tyIssW (newD w81 (rowO e Rm)) w81' Rm ys) :
    ∃ (vn vm : List (Value × Nat × Int)) (BL : List (Nat × Obj)) (BN : List (Nat × List Value × TypeId)), BL = rowO e Rh ++ (rowO e Rm ++ BN.map blk) ∧ (BL.map (·.1)).Nodup ∧ (∀ q ∈ BL, w76.heap.size ≤ q.1 ∧ w81'.heap[q.1]? = some q.2) ∧ vn.length = xs.length ∧ vm.length = ys.length ∧ rowOK 2 Rh xs.length (vnsC vn) ∧ rowOK 2 Rm ys.length (vnsC vm) ∧ (vnsC vm).all (fun u => u.oneCell') = true ∧ ∀ x ∈ vn ++ vm, hasW BN x.1 x.2.1 := by
  have hs1 : w76'.heap.size ≤ w81.heap.size := (hm2.ro_st (w76', notOwn own) (.head _)).2.2.2
  have hs0 : w76.heap.size ≤ w76'.heap.size := hl1.size
  have own_lt : ∀ p ∈ own, p.1 < w76.heap.size := fun p hp => hm1.lt hp
  have mv : ∀ k, w76.heap.size ≤ k → k < w76'.heap.size → w81'.heap[k]? = w76'.heap[k]? := fun k hk hlt => by
    have a1 := hm2.ro_at (w76', notOwn own) (.head _) k (fun p hp he => by have := own_lt p hp; omega) hlt
    exact (hl2.block k (by show k < w81.heap.size; omega)).trans a1
  obtain ⟨css1, c1, r1, d1⟩ := h2
  obtain ⟨css2, c2, r2, d2⟩ := k2
  have lt1 : ∀ q ∈ rowO e Rh, q.1 < w76'.heap.size := fun q hq => heap_lt (h1 q hq).1
  have K1 : Kept (newD w76 (rowO e Rh)) (fun b => w76.heap.size ≤ b ∧ notOwn (rowO e Rh) b ∧ notOwn (rowO e Rm) b) w76' w81' := fun k hk hlt => ⟨⟨hk.1, hk.2, fun q hq he => by have := (k1 q hq).2; omega⟩, mv k hk.1 hlt⟩
  have K2 : Kept (newD w81 (rowO e Rm)) (fun b => w76.heap.size ≤ b ∧ notOwn (rowO e Rh) b ∧ notOwn (rowO e Rm) b) w81' w81' := fun k hk hlt => ⟨⟨by have := hk.1; omega, fun q hq he => by have := lt1 q hq; have := hk.1; omega, hk.2⟩, rfl⟩
  obtain ⟨vn, f1, f2, f3⟩ := vn_of (D := fun b => w76.heap.size ≤ b ∧ notOwn (rowO e Rh) b ∧ notOwn (rowO e Rm) b) (w := w81') css1 (fun c hc => by
    obtain ⟨j, hj, rfl⟩ := List.getElem_of_mem hc
    obtain ⟨v, e1, e2, _⟩ := d1 j hj (by omega)
    exact ⟨v, _, _, e1, e2.2.keep K1⟩)
  obtain ⟨vm, g1, g2, g3⟩ := vn_of (D := fun b => w76.heap.size ≤ b ∧ notOwn (rowO e Rh) b ∧ notOwn (rowO e Rm) b) (w := w81') css2 (fun c hc => by
    obtain ⟨j, hj, rfl⟩ := List.getElem_of_mem hc
    obtain ⟨v, e1, e2, _⟩ := d2 j hj (by omega)
    exact ⟨v, _, _, e1, e2.2.keep K2⟩)
  obtain ⟨BN, n1, n2, n3⟩ := hasW_of (D := fun b => w76.heap.size ≤ b ∧ notOwn (rowO e Rh) b ∧ notOwn (rowO e Rm) b) (w := w81') ((vn ++ vm).map fun x => (x.1, x.2.1)) (fun x hx => by
    obtain ⟨y, hy, rfl⟩ := List.mem_map.1 hx
    rcases List.mem_append.1 hy with hy | hy
    · exact f3 y hy
    · exact g3 y hy)
  refine ⟨vn, vm, _, BN, rfl, ?_, fun q hq => ?_, by omega, by omega, by rw [← f1]; exact r1, by rw [← g1]; exact r2, vns_one g3, fun x hx => n3 (x.1, x.2.1) (List.mem_map.2 ⟨x, hx, rfl⟩)⟩
  · have nd1 : ∀ (R : RowS), ((rowO e R).map (·.1)).Nodup := fun R => by cases R <;> simp [rowO]
    rw [List.map_append, List.map_append, List.nodup_append, List.nodup_append]
    refine ⟨nd1 Rh, ⟨nd1 Rm, blk_nd n1, fun a ha b hb he => ?_⟩, fun a ha b hb he => ?_⟩
    · obtain ⟨p, hp, rfl⟩ := List.mem_map.1 ha
      obtain ⟨q, hq, rfl⟩ := List.mem_map.1 hb
      obtain ⟨q0, hq0, rfl⟩ := List.mem_map.1 hq
      exact (n2 q0 hq0).1.2.2 p hp he
    · obtain ⟨p, hp, rfl⟩ := List.mem_map.1 ha
      rcases List.mem_append.1 hb with hb | hb
      · obtain ⟨q, hq, rfl⟩ := List.mem_map.1 hb
        have h3 := lt1 p hp
        have h4 := (k1 q hq).2
        omega
      · obtain ⟨q, hq, rfl⟩ := List.mem_map.1 hb
        obtain ⟨q0, hq0, rfl⟩ := List.mem_map.1 hq
        exact (n2 q0 hq0).1.2.1 p hp he
  · rcases List.mem_append.1 hq with hq | hq
    · exact ⟨(h1 q hq).2, (mv q.1 (h1 q hq).2 (lt1 q hq)).trans (h1 q hq).1⟩
    · rcases List.mem_append.1 hq with hq | hq
      · exact ⟨by have := (k1 q hq).2; omega, (k1 q hq).1⟩
      · obtain ⟨q0, hq0, rfl⟩ := List.mem_map.1 hq
        exact ⟨(n2 q0 hq0).1.1, (n2 q0 hq0).2⟩
end Go.PK

namespace Go.PK
open Go Go.ChangeShapes Go.WideShapes Go.ChangeAt Go.RowKit
structure Meas (H : Type) where
  f : DataW H → Nat
  all : List (DataW H) → Nat
  str : ∀ bs, f (.lit (.string bs)) = bs.length + 1
  slice : ∀ es sp, f (.slice es sp) = all es + all sp + 1
  agg : ∀ ps, f (.agg ps) = all ps + 1
  cons : ∀ d r, all (d :: r) = f d + all r
  one : ∀ d, 1 ≤ f d
theorem Meas.mem_le {H : Type} (M : Meas H) : ∀ {l : List (DataW H)} {d : DataW H}, d ∈ l → M.f d ≤ M.all l
  | x :: r, d, h => by
    rw [M.cons]
    rcases List.mem_cons.1 h with rfl | h
    · omega
    · have := M.mem_le h; omega
theorem Meas.len_le {H : Type} (M : Meas H) : ∀ (l : List (DataW H)), l.length ≤ M.all l
  | [] => Nat.zero_le _
  | x :: r => by
    rw [M.cons, List.length_cons]
    have h1 := M.len_le r
    have h2 := M.one x
    omega
structure RdrN {α : Type} (P : Program) (t : TypeId) (T : Ty α) (N : Nat) : Prop where
  size : P.cellsOf t = T.size
  pos : 0 < T.size
  rd : ∀ {H : Type} {enc : TypeId × Value → H} {w : World} {base : Nat} {sp : Nat → Bool} {held : Bool} {fuel : Nat} {cs : List Value} {x : DataW H × List MemPlace} (M : Meas H), M.f x.1 ≤ N → DataW.trod enc P w base sp held fuel t cs = some x → ∃ y, T.rd (fun _ => True) w cs y
theorem Rdr.N {α : Type} {P : Program} {t : TypeId} {T : Ty α} {N : Nat} (R : Rdr P t T) : RdrN P t T N := ⟨R.size, R.pos, fun _ _ h => R.rd h⟩
def tyStrN (N : Nat) : Ty ByteArray where
  size := 1
  rd := fun _ _ cs x => cs = [.string x] ∧ x.size ≤ N
  len := fun h => by rw [h.1]; rfl
  keep := fun h _ => h
section
variable {P : Program} {H : Type} {enc : TypeId × Value → H}
theorem rdr_sN {t : TypeId} {N : Nat} (ht : P.underlying t = some .string) (hc : P.cellsOf t = 1) : RdrN P t (tyStrN N) N :=
  ⟨hc, Nat.one_pos, fun M hM h => by
    obtain ⟨s, rfl, rfl, hw⟩ := DataW.trod_string ht h
    simp only [M.str] at hM
    have e : s.data.toList.length = s.size := by rw [Array.length_toList]; rfl
    exact ⟨s, rfl, by omega⟩⟩
theorem trod_rdN {α : Type} {T : Ty α} {t e : TypeId} {N fuel base : Nat} {sp : Nat → Bool} {held : Bool} {w : World} {cs : List Value} {x : DataW H × List MemPlace} (ht : P.underlying t = some (.slice e)) (R : RdrN P e T N) (M : Meas H) (hN : M.f x.1 ≤ N) (h : DataW.trod enc P w base sp held fuel t cs = some x) :
    ∃ v xs, cs = [v] ∧ sliceRd T (fun _ => True) w v xs ∧ xs.length ≤ N ∧ ∃ a l c, v = .slice a l c := by
  rcases Go.Deep.open_slice ht h with ⟨rfl, _⟩ | ⟨a, len, cap, m, n, D, Pl, rfl, hb, hl, hm, hmm, hxe, hx⟩
  · exact ⟨_, [], rfl, ⟨none, 0, rfl, Nat.le_refl _, Nat.zero_le _, fun h => by simp at h⟩, Nat.zero_le _, _, _, _, rfl⟩
  · have hlm : len ≤ m := by rw [hmm]; split <;> omega
    have hx' : ∀ i, i < len → ∃ p : List Value × α, w.cells? base (a.add (i * P.cellsOf e)) (P.cellsOf e) = some p.1 ∧ T.rd (fun _ => True) w p.1 p.2 := fun i hi => by
      obtain ⟨cs', h1, h2⟩ := hx i (by omega)
      have hfi : M.f (D i) ≤ N := by
        subst hxe
        have h3 := M.mem_le (List.mem_map.2 ⟨i, List.mem_range.2 hi, rfl⟩ : D i ∈ (List.range len).map D)
        simp only [M.slice] at hN
        omega
      obtain ⟨y, hy⟩ := R.rd M hfi h2
      exact ⟨⟨cs', y⟩, h1, hy⟩
    rcases Nat.eq_zero_or_pos len with h0 | h0
    · subst h0
      exact ⟨_, [], rfl, ⟨some a, cap, rfl, Nat.zero_le _, Nat.zero_le _, fun h => by simp at h⟩, Nat.zero_le _, _, _, _, rfl⟩
    · have hspot : a.spot = none := by
        obtain ⟨p, h1, h2⟩ := hx' 0 h0
        have hpl : 0 < P.cellsOf e := by rw [R.size]; exact R.pos
        unfold World.cells? at h1
        split at h1
        · have := mapM_some_get h1 0 0 (by rw [List.getElem?_range hpl])
          have hlen : p.1.length = P.cellsOf e := by simpa using mapM_some_length h1
          rw [List.getElem?_eq_getElem (by omega)] at this
          have e0 : (a.add (0 * P.cellsOf e)).add 0 = a := by simp [Addr.add]
          rw [e0] at this
          unfold World.cell? at this
          split at this
          · split at this
            · cases this
            · rename_i hns; simpa using hns
          · cases this
        · cases h1
      obtain ⟨b, off, sp'⟩ := a
      simp only at hspot
      subst hspot
      let F : (i : Nat) → (i < len) → List Value × α := fun i hi => (hx' i hi).choose
      have hF : ∀ i (hi : i < len), w.cells? base ((⟨b, off, none⟩ : Addr).add (i * P.cellsOf e)) (P.cellsOf e) = some (F i hi).1 ∧ T.rd (fun _ => True) w (F i hi).1 (F i hi).2 := fun i hi => (hx' i hi).choose_spec
      refine ⟨_, List.ofFn (fun i : Fin len => (F i.1 i.2).2), rfl, ⟨_, cap, by rw [List.length_ofFn], by rw [List.length_ofFn]; exact hl, by rw [List.length_ofFn]; unfold maxLen at hm; omega, fun _ => ⟨b, off, rfl, trivial, ?_, fun j hj => ?_⟩⟩, ?_, _, _, _, rfl⟩
      · obtain ⟨h1, h2⟩ := hF 0 h0
        have hpl : 0 < P.cellsOf e := by rw [R.size]; exact R.pos
        unfold World.cells? at h1
        split at h1
        · have := mapM_some_get h1 0 0 (by rw [List.getElem?_range hpl])
          have hlen : (F 0 h0).1.length = P.cellsOf e := by simpa using mapM_some_length h1
          rw [List.getElem?_eq_getElem (by omega)] at this
          have := cell_lt this
          simpa [Addr.add] using this
        · cases h1
      · have hj' : j < len := by simpa using hj
        obtain ⟨h1, h2⟩ := hF j hj'
        refine ⟨(F j hj').1, fun i hi => ?_, by simpa using h2⟩
        unfold World.cells? at h1
        split at h1
        · have hlen : (F j hj').1.length = P.cellsOf e := by simpa using mapM_some_length h1
          have := mapM_some_get h1 i i (by rw [List.getElem?_range (by omega)])
          rw [List.getElem?_eq_getElem hi, mk_add, mk_add, R.size] at this
          exact this
        · cases h1
      · rw [List.length_ofFn]
        subst hxe
        have h3 := M.len_le ((List.range len).map D)
        simp only [M.slice] at hN
        rw [List.length_map, List.length_range] at h3
        omega
end
section
variable {H : Type} {enc : TypeId × Value → H} {P : Program} {W : World} {base b0 : Nat} {sp : Nat → Bool} {held : Bool} {r : Reach} {t e : TypeId} {v : Value} {d : DataW H} {ps : List MemPlace}
theorem top_sliceN {α : Type} {T : Ty α} {N : Nat} (ht : P.underlying t = some (.slice e)) (R : RdrN P e T N) (M : Meas H) (hM : M.f d ≤ N) (hval : Value.okWide P W r b0 t v) (h : DataW.Trod enc P W base sp held t v d ps) : ∃ xs, sliceRd T (fun _ => True) W v xs ∧ xs.length ≤ N := by
  obtain ⟨n, hn⟩ := h
  obtain ⟨v', xs, hc, hrd, hl, a, l, c, rfl⟩ := trod_rdN ht R M hM hn
  have : v = .slice a l c := by
    cases v <;> simp_all [Value.okWide, Cell.okWide, Cell.ok, Value.cells]
  subst this
  exact ⟨xs, hrd, hl⟩
theorem sliceRd.each {α : Type} {T : Ty α} {D : Nat → Prop} {v : Value} {xs : List α} {w : World} (h : sliceRd T D w v xs) {Q : α → Prop} (hT : ∀ cs x, T.rd D w cs x → Q x) : ∀ x ∈ xs, Q x := by
  intro x hx
  obtain ⟨A, c, h1, h2, h3, h4⟩ := h
  obtain ⟨b, off, e, hD, hb, hc⟩ := h4 (List.length_pos_of_mem hx)
  obtain ⟨j, hj, rfl⟩ := List.getElem_of_mem hx
  obtain ⟨cs, k1, k2⟩ := hc j hj
  exact hT _ _ k2
end
end Go.PK

namespace Go.PK
open Go Go.RowKit
end Go.PK

namespace Go.PK
open Go Go.ChangeShapes Go.WideShapes Go.ChangeAt Go.RowKit
inductive FldsN (P : Program) (N : Nat) : Nat → List Field → (β : Type) → Ty β → Prop where
  | nil (off : Nat) : FldsN P N off [] Unit tyNil
  | cons {α β : Type} {T : Ty α} {U : Ty β} {off : Nat} {f : Field} {fs : List Field} (ho : f.offset = off) (R : RdrN P f.type T N) (h : FldsN P N (off + T.size) fs β U) : FldsN P N off (f :: fs) (α × β) (tyCons T U)
theorem fldsN_of {P : Program} {N : Nat} {H : Type} {enc : TypeId × Value → H} {w : World} {base m : Nat} {sp : Nat → Bool} {held : Bool} {cs : List Value} {off : Nat} {fs : List Field} {β : Type} {U : Ty β} (M : Meas H) (F : FldsN P N off fs β U) :
    (∀ f ∈ fs, ∃ x, M.f x.1 ≤ N ∧ DataW.trod enc P w base sp held m f.type ((cs.drop f.offset).take (P.cellsOf f.type)) = some x) → cs.length = off + U.size → ∃ y, U.rd (fun _ => True) w (cs.drop off) y := by
  induction F with
  | nil off => exact fun _ hl => ⟨(), List.drop_eq_nil_of_le (by rw [hl]; exact Nat.le_refl _)⟩
  | @cons α β T U off f fs ho R F ih =>
    intro h hl
    have hl : cs.length = off + (T.size + U.size) := hl
    obtain ⟨y, hy⟩ := ih (fun g hg => h g (List.mem_cons_of_mem _ hg)) (by omega)
    obtain ⟨x, hM, hx⟩ := h f (List.mem_cons_self ..)
    rw [ho, R.size] at hx
    obtain ⟨z, hz⟩ := R.rd M hM hx
    refine ⟨(z, y), _, _, (List.take_append_drop T.size _).symm, hz, ?_⟩
    rw [List.drop_drop]
    exact hy
theorem rdrN_struct {P : Program} {N : Nat} {t : TypeId} {fs : Array Field} {β : Type} {U : Ty β} (ht : P.underlying t = some (.struct fs)) (hc : P.cellsOf t = U.size) (hp : 0 < U.size) (F : FldsN P N 0 fs.toList β U) : RdrN P t U N :=
  ⟨hc, hp, @fun H enc w base sp held fuel cs x M hM h => by
    obtain ⟨xs, m, hx0, hxl, hl, hx, hh⟩ := DataW.trod_struct ht h
    have := fldsN_of (enc := enc) (base := base) (sp := sp) (held := held) (m := m) (cs := cs) (w := w) M F (fun f hf => by
      obtain ⟨i, hi, rfl⟩ := List.mem_iff_getElem.1 hf
      have h1 := hh i fs.toList[i] (by simp)
      have hi' : i < fs.size := by simpa using hi
      rw [List.getElem?_eq_getElem (by omega)] at h1
      refine ⟨_, ?_, h1⟩
      subst hxl
      have h3 := M.mem_le (List.mem_map.2 ⟨xs[i]'(by omega), List.getElem_mem _, rfl⟩ : (xs[i]'(by omega)).1 ∈ xs.map (fun x => x.1))
      have hM : M.f (.agg (xs.map fun x => x.1)) ≤ N := hM
      rw [M.agg] at hM
      exact Nat.le_trans h3 (by omega)) (by rw [hl, hc]; omega)
    simpa using this⟩
end Go.PK

namespace Go.PK
open Go Go.RowKit
theorem Qz : (∀ (p : Prop) [Decidable p], (decide p = true) = p) ∧ (∀ (p : Prop) [Decidable p], (decide p = false) = ¬p) ∧ (∀ a b : Bool, ((a && b) = true) = (a = true ∧ b = true)) ∧ (∀ a b : Bool, ((a || b) = true) = (a = true ∨ b = true)) ∧ (∀ a b : Bool, ((a && b) = false) = (a = false ∨ b = false)) ∧ (∀ a b : Bool, ((a || b) = false) = (a = false ∧ b = false)) ∧ (∀ b : Bool, ((!b) = true) = (b = false)) ∧ (∀ b : Bool, ((!b) = false) = (b = true)) ∧ (∀ (p : Prop) [Decidable p], (¬¬p) = p) :=
  ⟨fun p _ => decide_eq_true_eq, fun p _ => propext decide_eq_false_iff_not, Bool.and_eq_true, Bool.or_eq_true, fun a b => propext Bool.and_eq_false_iff, fun a b => propext Bool.or_eq_false_iff, Bool.not_eq_true', Bool.not_eq_false', fun p _ => propext Decidable.not_not⟩
theorem Qy : (∀ (a : Bool × Bool) (as bs : List (Bool × Bool)), (a :: as) ++ bs = a :: (as ++ bs)) ∧ (∀ as : List (Bool × Bool), [] ++ as = as) ∧ (∀ v, gvl [] v = v) ∧ (∀ gs v, gvl ((true, true) :: gs) v = gvl gs v) ∧ (∀ gs v, gvl ((false, false) :: gs) v = gvl gs v) := ⟨fun _ _ _ => rfl, fun _ => rfl, gvl_nil, gvl_t, gvl_f⟩
theorem Zo {p : Prop} (h : p := by first | omega | (dsimp only; omega)) : p := h
theorem Zh {p : Prop} (h : p := by repeat (first | exact List.Mem.head _ | apply List.Mem.tail)) : p := h
theorem Zi {p : Prop} (h : p := by repeat (first | exact List.Mem.head _ | apply List.Mem.tail | apply List.mem_append_right)) : p := h
theorem Zu {p : Prop} (h : p := by repeat (first | exact Sub.nil | refine Sub.cons rfl ?_)) : p := h
theorem Zk {p : Prop} (h : p := by kernel_rfl) : p := h
theorem Zx {p : Prop} (h : p := by simp only [maxLen]; omega) : p := h
section
variable {P : Program} {n : Nat} {l : List (Nat × Value)} {own : List (Nat × Obj)} {ro : List Snap} {lops : List Oper} {Q : Exit → Act → World → Prop} {K : Act → World → Prop}
  {rest : List (Option Bool × Nat)} {k : Option Bool} {i d j dj : Nat} {op : Op} {ty t : TypeId} {pos : String} {af : Array Edge} {x : Operand} {v : Value} {b c want : Bool}
theorem Xm (h : WX P lops.toArray Q K rest n ((d, v) :: l) own ro) (ho : lops[i]? = some ⟨some d, .move x, ty, pos, af, none⟩ := by exact rfl) (hk : k.getD true = true := by exact rfl) (hd : decide (d < n) = true := by exact rfl) (hx : ev l x = some v := by exact rfl) : WX P lops.toArray Q K ((k, i) :: rest) n l own ro := x_val ho hk hd (v_move hx) h
theorem Xa (h : WX P lops.toArray Q K rest n ((d, v) :: l) own ro) (ho : lops[i]? = some ⟨some d, .assign x, ty, pos, af, none⟩ := by exact rfl) (hk : k.getD true = true := by exact rfl) (hd : decide (d < n) = true := by exact rfl) (hx : ev l x = some v := by exact rfl) : WX P lops.toArray Q K ((k, i) :: rest) n l own ro := x_val ho hk hd (v_assign hx) h
theorem Xv (ho : lops[i]? = some ⟨some d, op, ty, pos, af, none⟩) (hv : OpV P n l own ro op ty v) (h : WX P lops.toArray Q K rest n ((d, v) :: l) own ro) (hk : k.getD true = true := by exact rfl) (hd : decide (d < n) = true := by exact rfl) : WX P lops.toArray Q K ((k, i) :: rest) n l own ro := x_val ho hk hd hv h
theorem Xb (ho : lops[i]? = some ⟨some d, op, ty, pos, af, none⟩) (hv : OpV P n l own ro op ty (.bool b)) (h : ∀ c, c = b → WX P lops.toArray Q K rest n ((d, .bool c) :: l) own ro) (hk : k.getD true = true := by exact rfl) (hd : decide (d < n) = true := by exact rfl) : WX P lops.toArray Q K ((k, i) :: rest) n l own ro := x_bool ho hk hd hv h
theorem Xi (ho : lops[i]? = some ⟨some d, op, ty, pos, af, some (j, want)⟩) (hj : (lops[j]?).bind (·.dst) = some dj) (hb : l.lookup dj = some (.bool b)) (hv : b = want → OpV P n l own ro op ty v) (h : WX P lops.toArray Q K rest n ((d, gvl ([] ++ [(b, want)]) v) :: l) own ro) (hk : k.getD true = true := by exact rfl) (hd : decide (d < n) = true := by exact rfl) : WX P lops.toArray Q K ((k, i) :: rest) n l own ro := x_if [] ho hj hb hk hd (fun hg => hv hg.1) h
theorem Xg (h : WX P lops.toArray Q K rest n ((d, gvl ([] ++ [(b, want)]) v) :: l) own ro) (ho : lops[i]? = some ⟨some d, .move x, ty, pos, af, some (j, want)⟩ := by exact rfl) (hj : (lops[j]?).bind (·.dst) = some dj := by exact rfl) (hb : l.lookup dj = some (.bool b) := by exact rfl) (hk : k.getD true = true := by exact rfl) (hd : decide (d < n) = true := by exact rfl) (hx : b = want → ev l x = some v := by intro hg0; (try subst hg0); (try simp only [Qy]); exact rfl) : WX P lops.toArray Q K ((k, i) :: rest) n l own ro := x_if [] ho hj hb hk hd (fun hg => v_move (hx hg.1)) h
theorem Xj (ho : lops[i]? = some ⟨some d, op, ty, pos, af, some (j, want)⟩) (hj : (lops[j]?).bind (·.dst) = some dj) (hb : l.lookup dj = some (.bool b)) (hv : b = want → OpV P n l own ro op ty (.bool c)) (h : ∀ c', c' = c → WX P lops.toArray Q K rest n ((d, gvl ([] ++ [(b, want)]) (.bool c')) :: l) own ro) (hk : k.getD true = true := by exact rfl) (hd : decide (d < n) = true := by exact rfl) : WX P lops.toArray Q K ((k, i) :: rest) n l own ro := x_ifb [] ho hj hb hk hd (fun hg => hv hg.1) h
theorem Vl {td : TypeDesc} {p o : Nat} (ht : P.underlying t = some td) (hx : ev l x = some (.pointer (some ⟨p, o, none⟩))) (hd : aggT td = false := by exact rfl) (hc : At own ro p o v := by first | exact at_ownL (.head _) rfl | exact at_ownL (.tail _ (.head _)) rfl | exact at_ownL (.tail _ (.tail _ (.head _))) rfl | (apply at_ownL; ((repeat (first | exact List.Mem.head _ | apply List.Mem.tail | apply List.mem_append_right))); rfl) | (refine at_ro (by first | exact .head _ | exact .tail _ (.head _) | exact .tail _ (.tail _ (.head _)) | simp) ?_ (by assumption); trivial)) : OpV P n l own ro (.load t x) ty v := v_load ht hd hx hc
theorem Ze (h : S K n l own ro) : WX P lops.toArray Q K [] n l own ro := x_end h
theorem Zt {y : Code} (h : W P y Q n l own ro) : S (Exit.then (y.wp P Q) Q .normal) n l own ro := h
theorem Zs {x y : Code} (h : W P x (Exit.then (y.wp P Q) Q) n l own ro) : W P (.seq x y) Q n l own ro := w_seq h
theorem Zr {id : Nat} (h : WX P lops.toArray Q (fun a w => Q .normal a w) (tailFrom 0 lops.length) n l own ro) : W P (.region id lops.toArray false) Q n l own ro := rg_text h
end
end Go.PK
