/- Of the proofs of YtaniaihoodgmpaaGreatDoor: PkUnc2 PkUnc3 PkUnc4 PkIter2 PkIter3 PkOpn PkInvS PkSerD PkBulk PkOrdT PkBulk2 PkZ, put together. -/
import Derived.Test.YtaniaihoodgmpaaGreatDoorM2
import Derived.OrdersIn
import Derived.Test.YtaniaihoodgmpaaGreatDoorM1
set_option linter.unusedVariables false
set_option linter.unusedSimpArgs false
set_option maxRecDepth 100000

namespace Go.PK
open Go Go.RowKit
section
variable {P : Program} {n : Nat} {l : List (Nat × Value)} {own : List (Nat × Obj)} {ro : List Snap} {ty t t' : TypeId} {x y : Operand} {k k' : IntKind} {a b c : Int}
theorem v_negI (hx : ev l x = some (.int k a)) : OpV P n l own ro (.unOp .neg t x) ty (.int k (k.wrap (-a))) := by
  intro A w o ha _ ho _
  simp [execOp, ho, ha.eval hx, Op.unary, Op.intArith]
end
theorem gV_succ {l : List UInt8} {i : Nat} (h : i < l.length) : gV (l.take (i + 1)) = gV (l.take i) + l[i].toNat % 128 * 2 ^ (7 * i) := by
  rw [take_last h, gV_app, List.length_take, Nat.min_eq_left (by omega), Nat.pow_mul, show 2 ^ 7 = 128 by decide]
  show _ + 128 ^ i * (l[i].toNat % 128 + 128 * 0) = _
  rw [Nat.mul_zero, Nat.add_zero, Nat.mul_comm]
theorem gV_take_lt {l : List UInt8} {i : Nat} (h : i ≤ l.length) : gV (l.take i) < 2 ^ (7 * i) := by
  have := gV_lt (l.take i)
  rw [List.length_take, Nat.min_eq_left h] at this
  rw [Nat.pow_mul, show 2 ^ 7 = 128 by decide]; exact this
theorem acc_step {l : List UInt8} {i : Nat} (h : i < l.length) (hs : gV (l.take (i + 1)) < 18446744073709551616) :
    orK .u64 ((gV (l.take i) : Nat) : Int) (IntKind.u64.wrap (((l[i].toNat % 128 : Nat) : Int) * 2 ^ min (((7 * i : Nat) : Int)).toNat IntKind.u64.bits)) = ((gV (l.take (i + 1)) : Nat) : Int) := by
  have e := gV_succ h
  rw [e] at hs ⊢
  have h2 : l[i].toNat % 128 * 2 ^ (7 * i) < 18446744073709551616 := by omega
  have key : IntKind.u64.wrap (((l[i].toNat % 128 : Nat) : Int) * 2 ^ min (((7 * i : Nat) : Int)).toNat IntKind.u64.bits) = ((l[i].toNat % 128 * 2 ^ (7 * i) : Nat) : Int) := by
    by_cases h0 : l[i].toNat % 128 = 0
    · rw [h0]; simp [IntKind.wrap, IntKind.bits, IntKind.signed]
    · have h7 : 7 * i ≤ 64 := by
        by_cases h9 : 7 * i ≤ 64
        · exact h9
        · have h8 : 2 ^ 64 ≤ 2 ^ (7 * i) := Nat.pow_le_pow_right (by decide) (by omega)
          have h6 : 1 * 2 ^ (7 * i) ≤ l[i].toNat % 128 * 2 ^ (7 * i) := Nat.mul_le_mul_right _ (by omega)
          rw [show 2 ^ 64 = 18446744073709551616 by decide] at h8
          omega
      have e7 : min (((7 * i : Nat) : Int)).toNat IntKind.u64.bits = 7 * i := by
        rw [Int.toNat_natCast]; show min (7 * i) 64 = _; omega
      rw [e7]
      have e8 : ((l[i].toNat % 128 : Nat) : Int) * 2 ^ (7 * i) = ((l[i].toNat % 128 * 2 ^ (7 * i) : Nat) : Int) := by
        rw [Int.natCast_mul, Int.natCast_pow]; rfl
      rw [e8, u64_wrap ⟨by omega, by omega⟩]
  rw [key]
  exact or_add (gV_take_lt (by omega)) hs
theorem gV_ten {l : List UInt8} {i : Nat} (h : i < l.length) (h9 : i ≤ 8) : gV (l.take (i + 1)) < 18446744073709551616 := by
  have h1 := gV_take_lt (l := l) (i := i + 1) (by omega)
  have h2 : 2 ^ (7 * (i + 1)) ≤ 2 ^ 63 := Nat.pow_le_pow_right (by decide) (by omega)
  rw [show 2 ^ 63 = 9223372036854775808 by decide] at h2
  omega
def uns (n : Nat) : Int := if n % 2 = 0 then ((n / 2 : Nat) : Int) else -1 - ((n / 2 : Nat) : Int)
theorem uns_sgn {n : Int} : uns (sgn n) = n := by
  unfold uns sgn
  split <;> split <;> omega
theorem sgn_uns (n : Nat) : sgn (uns n) = n := by
  unfold uns sgn
  split <;> split <;> omega
theorem uns_in {n : Nat} (h : n < 18446744073709551616) : -9223372036854775808 ≤ uns n ∧ uns n ≤ 9223372036854775807 := by
  unfold uns; split <;> omega
theorem and1U {n : Nat} (h : n < 18446744073709551616) : andK .u64 (n : Nat) 1 = ((n % 2 : Nat) : Int) := by
  have hb : (BitVec.ofInt 64 (n : Int) &&& BitVec.ofInt 64 1).toNat = n % 2 := by
    rw [BitVec.toNat_and, BitVec.toNat_ofInt, show (BitVec.ofInt 64 1).toNat = 1 by decide]
    have e1 : ((n : Int) % ((2 ^ 64 : Nat) : Int)).toNat = n := by
      rw [show ((2 ^ 64 : Nat) : Int) = 18446744073709551616 by decide]; omega
    rw [e1, Nat.and_one_is_mod]
  unfold andK
  show IntKind.u64.wrap ((BitVec.ofInt 64 (n : Int) &&& BitVec.ofInt 64 1).toNat : Nat) = _
  rw [hb, u64_wrap ⟨by omega, by omega⟩]
theorem xor_uns {n : Nat} (h : n < 18446744073709551616) : xorK .i64 ((n / 2 : Nat) : Int) (IntKind.i64.wrap (-((n % 2 : Nat) : Int))) = uns n := by
  have h2 : n / 2 < 9223372036854775808 := by omega
  have hin := uns_in h
  unfold uns at hin ⊢
  have e1 : (((n / 2 : Nat) : Int) % ((2 ^ 64 : Nat) : Int)).toNat = n / 2 := by
    rw [show ((2 ^ 64 : Nat) : Int) = 18446744073709551616 by decide]; omega
  unfold xorK
  rcases (show n % 2 = 0 ∨ n % 2 = 1 by omega) with h0 | h0
  · rw [h0, if_pos rfl, show IntKind.i64.wrap (-((0 : Nat) : Int)) = 0 by decide]
    show IntKind.i64.wrap ((BitVec.ofInt 64 _ ^^^ BitVec.ofInt 64 0).toNat : Nat) = _
    rw [bv_xor0, BitVec.toNat_ofInt, e1, wrap_in (by omega)]
  · rw [h0, if_neg (by decide), show IntKind.i64.wrap (-((1 : Nat) : Int)) = -1 by decide]
    show IntKind.i64.wrap ((BitVec.ofInt 64 _ ^^^ BitVec.ofInt 64 (-1)).toNat : Nat) = _
    rw [show BitVec.ofInt 64 (-1) = BitVec.allOnes 64 by decide, BitVec.xor_allOnes, BitVec.toNat_not, BitVec.toNat_ofInt, e1]
    have e2 : ((2 ^ 64 - 1 - n / 2 : Nat) : Int) = 18446744073709551615 - ((n / 2 : Nat) : Int) := by
      rw [show (2 : Nat) ^ 64 = 18446744073709551616 by decide]; omega
    rw [e2]
    simp only [IntKind.wrap, IntKind.bits, IntKind.signed]
    simp
    omega
theorem rr_yes {l : List UInt8} {i : Nat} (h1 : i < l.length) (h2 : i < 10) (h : ∀ j (hj : j < l.length), j < i → 128 ≤ l[j].toNat) (hn : l[i].toNat < 128) (he : numG (gV (l.take (i + 1)) % 18446744073709551616) = l.take (i + 1)) :
    rnL l = (gV (l.take (i + 1)) % 18446744073709551616, i + 1, 0) := by
  have hC : ¬((0 < i ∧ l[i].toNat = 0) ∨ (i = 9 ∧ 1 < l[i].toNat)) := by
    rw [not_or]
    refine ⟨fun h0 => ?_, fun h0 => ?_⟩
    · rw [take_last h1] at he
      exact numG_last _ _ _ he (fun h9 => by have := congrArg List.length h9; rw [List.length_take, List.length_nil] at this; omega) h0.2
    · have hg := congrArg gV he
      rw [gV_numG] at hg
      have h3 := gV_succ h1
      have h4 : l[i].toNat % 128 = l[i].toNat := by omega
      have h5 : 2 ^ (7 * i) = 9223372036854775808 := by rw [h0.1]
      rw [h4, h5] at h3
      have h6 := h0.2
      omega
  rw [rn_stop h1 h2 h hn, if_neg hC, Nat.mod_eq_of_lt (gV_small h1 h2 hn (fun h9 => hC (.inr h9)))]
theorem rr_no {l : List UInt8} {i : Nat} (h1 : i < l.length) (h2 : i < 10) (h : ∀ j (hj : j < l.length), j < i → 128 ≤ l[j].toNat) (hn : l[i].toNat < 128) (he : numG (gV (l.take (i + 1)) % 18446744073709551616) ≠ l.take (i + 1)) :
    rnL l = (0, 0, 11) := by
  rw [rn_stop h1 h2 h hn, if_pos]
  refine Decidable.byContradiction fun hC => he ?_
  rw [not_or] at hC
  rw [Nat.mod_eq_of_lt (gV_small h1 h2 hn hC.2), take_last h1, numG_gV _ _ (hi_take h) hn (fun h0 h9 => hC.1 ⟨?_, h9⟩)]
  cases i with
  | zero => simp at h0
  | succ i => omega
theorem mod_step {l : List UInt8} {i : Nat} (h : i < l.length) : (gV (l.take i) % 18446744073709551616 + l[i].toNat % 128 * (128 ^ i % 18446744073709551616) % 18446744073709551616) % 18446744073709551616 = gV (l.take (i + 1)) % 18446744073709551616 := by
  rw [gV_succ h, Nat.pow_mul, show 2 ^ 7 = 128 by decide, Nat.mul_mod_mod, ← Nat.add_mod]
theorem u64_mod (n : Nat) : IntKind.u64.wrap (n : Nat) = ((n % 18446744073709551616 : Nat) : Int) := by
  simp [IntKind.wrap, IntKind.bits, IntKind.signed]
end Go.PK

namespace Go.PK
open Go Go.RowKit
def inN (l : ByteArray) : Nat × ByteArray × Int := ((rnL (bl l)).1, l.extract (rnL (bl l)).2.1 l.size, (rnL (bl l)).2.2)
theorem rn_le (l : List UInt8) : (rnL l).2.1 ≤ l.length ∧ (rnL l).1 < 18446744073709551616 := by
  rcases rn_err l with h | ⟨h1, h2, _⟩
  · obtain ⟨_, _, h3, h4⟩ := rn_ok h; exact ⟨h3, h4⟩
  · rw [h1, h2]; exact ⟨Nat.zero_le _, by decide⟩
theorem ext_all (l : ByteArray) : l.extract 0 l.size = l := bl_inj (by rw [bl_ext, List.drop_zero, Nat.sub_zero, List.take_of_length_le (by rw [bl_len]; exact Nat.le_refl _)])
theorem ext_sz (l : ByteArray) {i : Nat} (h : i ≤ l.size) : (l.extract i l.size).size = l.size - i := by rw [ByteArray.size_extract]; omega
theorem in_err {l : ByteArray} (h : (inN l).2.2 ≠ 0) : (inN l).1 = 0 ∧ (inN l).2.1 = l ∧ ((inN l).2.2 = 10 ∨ (inN l).2.2 = 11) := by
  rcases rn_err (bl l) with h1 | ⟨h1, h2, h3⟩
  · exact absurd h1 h
  · exact ⟨h1, by unfold inN; dsimp only; rw [h2]; exact ext_all l, h3⟩
theorem in_ok {l : ByteArray} (h : (inN l).2.2 = 0) : bl l = numG (inN l).1 ++ bl (inN l).2.1 ∧ (inN l).2.1.size < l.size ∧ (inN l).1 < 18446744073709551616 := by
  obtain ⟨h1, h2, h3, h4⟩ := rn_ok h
  rw [bl_len] at h3
  have e : (inN l).2.1.size = l.size - (rnL (bl l)).2.1 := ext_sz l h3
  refine ⟨?_, by omega, h4⟩
  show bl l = numG (rnL (bl l)).1 ++ bl (l.extract (rnL (bl l)).2.1 l.size)
  rw [← h1, bl_ext, List.take_of_length_le (l := List.drop _ _) (by rw [List.length_drop, bl_len]; exact Nat.le_refl _), List.take_append_drop]
theorem in_le (l : ByteArray) : (inN l).2.1.size ≤ l.size ∧ (inN l).1 < 18446744073709551616 := by
  by_cases h : (inN l).2.2 = 0
  · obtain ⟨_, h1, h2⟩ := in_ok h; exact ⟨by omega, h2⟩
  · obtain ⟨h1, h2, _⟩ := in_err h; rw [h1, h2]; exact ⟨Nat.le_refl _, by decide⟩
theorem in_hit {n : Nat} (hn : n < 18446744073709551616) {l r : ByteArray} (h : bl l = numG n ++ bl r) : inN l = (n, r, 0) := by
  unfold inN
  rw [h, rn_hit hn]
  dsimp only
  have e : l.extract (numG n).length l.size = r := bl_inj (by
    rw [bl_ext, h, List.drop_left, List.take_of_length_le]
    have := congrArg List.length h
    rw [bl_len, List.length_append] at this
    omega)
  rw [e]
def nxQ (l : ByteArray) (out : List ByteArray) : ByteArray × Int × List ByteArray :=
  if (inN l).2.2 ≠ 0 then ((inN l).2.1, (inN l).2.2, out) else
  if (inN l).2.1.size < (inN l).1 then ((inN l).2.1, 10, out) else
  ((inN l).2.1.extract (inN l).1 (inN l).2.1.size, 0, out ++ [(inN l).2.1.extract 0 (inN l).1])
def unL : Nat → ByteArray → List ByteArray → ByteArray × Int × List ByteArray
  | 0, l, out => (l, 0, out)
  | m + 1, l, out => if (nxQ l out).2.1 = 0 then unL m (nxQ l out).1 (nxQ l out).2.2 else nxQ l out
def finU {α : Type} (q : ByteArray × Int × List α) : List α × Int := if q.2.1 ≠ 0 then ([], q.2.1) else if q.1 ≠ ⟨#[]⟩ then ([], 11) else (q.2.2, 0)
def unpQ (s : ByteArray) : List ByteArray × Int := finU (if (inN s).2.2 = 0 then unL (inN s).1 (inN s).2.1 [] else ((inN s).2.1, (inN s).2.2, []))
def riL : Nat → ByteArray → List Int → ByteArray × Int × List Int
  | 0, l, out => (l, 0, out)
  | m + 1, l, out => if (inN l).2.2 = 0 then riL m (inN l).2.1 (out ++ [uns (inN l).1]) else ((inN l).2.1, (inN l).2.2, out ++ [uns (inN l).1])
def riQ (s : ByteArray) : List Int × Int := finU (if (inN s).2.2 = 0 then riL (inN s).1 (inN s).2.1 [] else ((inN s).2.1, (inN s).2.2, []))
theorem nx_case (l : ByteArray) (out : List ByteArray) : ((nxQ l out).2.1 = 0 ∧ (inN l).2.2 = 0 ∧ (inN l).1 ≤ (inN l).2.1.size ∧ (nxQ l out).1.size < l.size ∧ (nxQ l out).2.2.length = out.length + 1) ∨ ((nxQ l out).2.1 ≠ 0 ∧ (nxQ l out).2.2 = out ∧ (nxQ l out).1.size ≤ l.size) := by
  have hle := in_le l
  unfold nxQ
  by_cases h : (inN l).2.2 = 0
  · obtain ⟨_, h1, h2⟩ := in_ok h
    rw [if_neg (fun h9 => h9 h)]
    by_cases h3 : (inN l).2.1.size < (inN l).1
    · rw [if_pos h3]; exact .inr ⟨by dsimp only; decide, rfl, hle.1⟩
    · rw [if_neg h3]
      refine .inl ⟨rfl, h, by omega, ?_, by simp⟩
      dsimp only
      rw [ext_sz _ (by omega)]; omega
  · rw [if_pos h]; exact .inr ⟨h, rfl, hle.1⟩
theorem un_hit : ∀ (xs : List ByteArray) (l r : ByteArray) (out : List ByteArray), (∀ s ∈ xs, s.size < 18446744073709551616) → bl l = (xs.flatMap fun s => numG s.size ++ bl s) ++ bl r → unL xs.length l out = (r, 0, out ++ xs)
  | [], l, r, out, _, h => by
    have : l = r := bl_inj (by simpa using h)
    rw [this, List.append_nil]; rfl
  | x :: xs, l, r, out, hs, h => by
    rw [List.flatMap_cons, List.append_assoc, List.append_assoc] at h
    have hx := hs x (List.mem_cons_self ..)
    have e : bl l = numG x.size ++ bl (⟨(bl x ++ ((xs.flatMap fun s => numG s.size ++ bl s) ++ bl r)).toArray⟩ : ByteArray) := by rw [bl_mk]; exact h
    have hi := in_hit hx e
    obtain ⟨y, hy⟩ : ∃ y : ByteArray, y = ⟨(bl x ++ ((xs.flatMap fun s => numG s.size ++ bl s) ++ bl r)).toArray⟩ := ⟨_, rfl⟩
    have hyb : bl y = bl x ++ ((xs.flatMap fun s => numG s.size ++ bl s) ++ bl r) := by rw [hy, bl_mk]
    rw [← hy] at hi
    have hys : x.size ≤ y.size := by have := congrArg List.length hyb; rw [bl_len, List.length_append, bl_len] at this; omega
    have e1 : y.extract 0 x.size = x := bl_inj (by rw [bl_ext, List.drop_zero, Nat.sub_zero, hyb, ← bl_len x, List.take_left])
    have hn : nxQ l out = (y.extract x.size y.size, 0, out ++ [x]) := by
      unfold nxQ
      rw [hi]
      dsimp only
      rw [if_neg (by decide), if_neg (by omega), e1]
    have e2 : bl (y.extract x.size y.size) = (xs.flatMap fun s => numG s.size ++ bl s) ++ bl r := by
      rw [bl_ext, hyb, ← bl_len x, List.drop_left, List.take_of_length_le]
      have := congrArg List.length hyb
      rw [List.length_append, bl_len] at this
      rw [bl_len] at this ⊢
      omega
    rw [List.length_cons, unL, hn]
    dsimp only
    rw [if_pos rfl, un_hit xs _ r _ (fun s h => hs s (List.mem_cons_of_mem _ h)) e2, List.append_assoc]; rfl
theorem unp_pack {xs : List ByteArray} (hl : xs.length < 18446744073709551616) (hs : ∀ s ∈ xs, s.size < 18446744073709551616) : unpQ ⟨(packG xs).toArray⟩ = (xs, 0) := by
  obtain ⟨y, hy⟩ : ∃ y : ByteArray, y = ⟨(xs.flatMap fun s => numG s.size ++ bl s).toArray⟩ := ⟨_, rfl⟩
  have hyb : bl y = xs.flatMap fun s => numG s.size ++ bl s := by rw [hy, bl_mk]
  have h1 := in_hit (n := xs.length) (l := ⟨(packG xs).toArray⟩) (r := y) hl (by rw [bl_mk, hyb]; rfl)
  unfold unpQ
  rw [h1]
  dsimp only
  rw [if_pos rfl, un_hit xs y ⟨#[]⟩ [] hs (by rw [hyb]; simp [bl])]
  rfl
theorem ri_hit : ∀ (xs : List Int) (l r : ByteArray) (out : List Int), (∀ n ∈ xs, -9223372036854775808 ≤ n ∧ n ≤ 9223372036854775807) → bl l = (xs.flatMap fun n => numG (sgn n)) ++ bl r → riL xs.length l out = (r, 0, out ++ xs)
  | [], l, r, out, _, h => by
    have : l = r := bl_inj (by simpa using h)
    rw [this, List.append_nil]; rfl
  | x :: xs, l, r, out, hs, h => by
    rw [List.flatMap_cons, List.append_assoc] at h
    have hx := hs x (List.mem_cons_self ..)
    obtain ⟨y, hy⟩ : ∃ y : ByteArray, y = ⟨((xs.flatMap fun n => numG (sgn n)) ++ bl r).toArray⟩ := ⟨_, rfl⟩
    have hyb : bl y = (xs.flatMap fun n => numG (sgn n)) ++ bl r := by rw [hy, bl_mk]
    have hi := in_hit (sgn_lt hx) (l := l) (r := y) (by rw [hyb]; exact h)
    rw [List.length_cons, riL, hi]
    dsimp only
    rw [if_pos rfl, ri_hit xs y r _ (fun n h => hs n (List.mem_cons_of_mem _ h)) hyb, uns_sgn, List.append_assoc]; rfl
theorem ri_ints {xs : List Int} (hl : xs.length < 18446744073709551616) (hs : ∀ n ∈ xs, -9223372036854775808 ≤ n ∧ n ≤ 9223372036854775807) : riQ ⟨(intsG xs).toArray⟩ = (xs, 0) := by
  obtain ⟨y, hy⟩ : ∃ y : ByteArray, y = ⟨(xs.flatMap fun n => numG (sgn n)).toArray⟩ := ⟨_, rfl⟩
  have hyb : bl y = xs.flatMap fun n => numG (sgn n) := by rw [hy, bl_mk]
  have h1 := in_hit (n := xs.length) (l := ⟨(intsG xs).toArray⟩) (r := y) hl (by rw [bl_mk, hyb]; rfl)
  unfold riQ
  rw [h1]
  dsimp only
  rw [if_pos rfl, ri_hit xs y ⟨#[]⟩ [] hs (by rw [hyb]; simp [bl])]
  rfl
theorem un_back : ∀ (m : Nat) (l : ByteArray) (out : List ByteArray), (unL m l out).2.1 = 0 → ∃ xs, xs.length = m ∧ (unL m l out).2.2 = out ++ xs ∧ bl l = (xs.flatMap fun s => numG s.size ++ bl s) ++ bl (unL m l out).1
  | 0, l, out, _ => ⟨[], rfl, by simp [unL], by simp [unL]⟩
  | m + 1, l, out, h => by
    rw [unL] at h ⊢
    by_cases h0 : (nxQ l out).2.1 = 0
    · rw [if_pos h0] at h ⊢
      obtain ⟨xs, h1, h2, h3⟩ := un_back m _ _ h
      rcases nx_case l out with ⟨_, c1, c2, _, _⟩ | ⟨c, _⟩
      · obtain ⟨i1, i2, i3⟩ := in_ok c1
        have hn : nxQ l out = ((inN l).2.1.extract (inN l).1 (inN l).2.1.size, 0, out ++ [(inN l).2.1.extract 0 (inN l).1]) := by
          unfold nxQ; rw [if_neg (fun h9 => h9 c1), if_neg (by omega)]
        have hz : ((inN l).2.1.extract 0 (inN l).1).size = (inN l).1 := by rw [ByteArray.size_extract]; omega
        refine ⟨(inN l).2.1.extract 0 (inN l).1 :: xs, by rw [List.length_cons, h1], by rw [h2, hn, List.append_assoc]; rfl, ?_⟩
        rw [List.flatMap_cons, hz, List.append_assoc, List.append_assoc, i1, ← h3, hn]
        refine congrArg (numG (inN l).1 ++ ·) ?_
        rw [bl_ext, bl_ext, List.drop_zero, Nat.sub_zero, List.take_of_length_le (l := List.drop _ _) (by rw [List.length_drop, bl_len]; exact Nat.le_refl _), List.take_append_drop]
      · exact absurd h0 c
    · rw [if_neg h0] at h; exact absurd h h0
theorem unp_back {s : ByteArray} {xs : List ByteArray} (h : unpQ s = (xs, 0)) : bl s = packG xs := by
  unfold unpQ at h
  by_cases h0 : (inN s).2.2 = 0
  · rw [if_pos h0] at h
    unfold finU at h
    split at h
    · rename_i h1; injection h with _ h; exact absurd h h1
    · rename_i h1
      rw [Decidable.not_not] at h1
      split at h
      · injection h with _ h; exact absurd h (by decide)
      · rename_i h2
        rw [Decidable.not_not] at h2
        obtain ⟨ys, g1, g2, g3⟩ := un_back _ _ _ h1
        injection h with h _
        rw [h, List.nil_append] at g2
        subst g2
        obtain ⟨i1, _, _⟩ := in_ok h0
        rw [i1, g3, h2]
        unfold packG
        rw [g1]
        have : bl (⟨#[]⟩ : ByteArray) = [] := rfl
        rw [this, List.append_nil]
  · rw [if_neg h0] at h
    unfold finU at h
    rw [if_pos h0] at h
    injection h with _ h; exact absurd h h0
theorem ri_back : ∀ (m : Nat) (l : ByteArray) (out : List Int), (riL m l out).2.1 = 0 → ∃ xs, xs.length = m ∧ (riL m l out).2.2 = out ++ xs ∧ bl l = (xs.flatMap fun n => numG (sgn n)) ++ bl (riL m l out).1 ∧ ∀ n ∈ xs, -9223372036854775808 ≤ n ∧ n ≤ 9223372036854775807
  | 0, l, out, _ => ⟨[], rfl, by simp [riL], by simp [riL], fun n h => by cases h⟩
  | m + 1, l, out, h => by
    rw [riL] at h ⊢
    by_cases h0 : (inN l).2.2 = 0
    · rw [if_pos h0] at h ⊢
      obtain ⟨xs, h1, h2, h3, h4⟩ := ri_back m _ _ h
      obtain ⟨i1, i2, i3⟩ := in_ok h0
      refine ⟨uns (inN l).1 :: xs, by rw [List.length_cons, h1], by rw [h2, List.append_assoc]; rfl, ?_, fun n hn => ?_⟩
      · rw [List.flatMap_cons, sgn_uns, List.append_assoc, i1, ← h3]
      · rcases List.mem_cons.1 hn with rfl | hn
        · exact uns_in i3
        · exact h4 n hn
    · rw [if_neg h0] at h; exact absurd h h0
theorem riq_back {s : ByteArray} {xs : List Int} (h : riQ s = (xs, 0)) : bl s = intsG xs ∧ ∀ n ∈ xs, -9223372036854775808 ≤ n ∧ n ≤ 9223372036854775807 := by
  unfold riQ at h
  by_cases h0 : (inN s).2.2 = 0
  · rw [if_pos h0] at h
    unfold finU at h
    split at h
    · rename_i h1; injection h with _ h; exact absurd h h1
    · rename_i h1
      rw [Decidable.not_not] at h1
      split at h
      · injection h with _ h; exact absurd h (by decide)
      · rename_i h2
        rw [Decidable.not_not] at h2
        obtain ⟨ys, g1, g2, g3, g4⟩ := ri_back _ _ _ h1
        injection h with h _
        rw [h, List.nil_append] at g2
        subst g2
        obtain ⟨i1, _, _⟩ := in_ok h0
        refine ⟨?_, g4⟩
        rw [i1, g3, h2]
        unfold intsG
        rw [g1]
        have : bl (⟨#[]⟩ : ByteArray) = [] := rfl
        rw [this, List.append_nil]
  · rw [if_neg h0] at h
    unfold finU at h
    rw [if_pos h0] at h
    injection h with _ h; exact absurd h h0
end Go.PK

namespace Go.PK
open Go Go.RowKit
theorem nx_sz {l : ByteArray} {out : List ByteArray} {N : Nat} (hl : l.size ≤ N) (h : ∀ x ∈ out, x.size ≤ N) : ∀ x ∈ (nxQ l out).2.2, x.size ≤ N := by
  have hle := in_le l
  unfold nxQ
  split
  · exact h
  · split
    · exact h
    · intro x hx
      rcases List.mem_append.1 hx with hx | hx
      · exact h x hx
      · rw [List.mem_singleton.1 hx, ByteArray.size_extract]; omega
def unS (m : Nat) (l : ByteArray) (e : Int) (out : List ByteArray) : ByteArray × Int × List ByteArray := if e = 0 then unL m l out else (l, e, out)
theorem unS_step {m i : Nat} (h : i < m) (l : ByteArray) (out : List ByteArray) : unS (m - i) l 0 out = unS (m - (i + 1)) (nxQ l out).1 (nxQ l out).2.1 (nxQ l out).2.2 := by
  unfold unS
  rw [if_pos rfl, show m - i = (m - (i + 1)) + 1 by omega, unL]
theorem unS_end {m i : Nat} {l : ByteArray} {e : Int} {out : List ByteArray} (h : m ≤ i ∨ e ≠ 0) : unS (m - i) l e out = (l, e, out) := by
  unfold unS
  by_cases h0 : e = 0
  · rw [if_pos h0, show m - i = 0 by omega, h0]; rfl
  · rw [if_neg h0]
theorem unp_eq (s : ByteArray) : unpQ s = finU (unS (inN s).1 (inN s).2.1 (inN s).2.2 []) := rfl
def riS (m : Nat) (l : ByteArray) (e : Int) (out : List Int) : ByteArray × Int × List Int := if e = 0 then riL m l out else (l, e, out)
theorem riS_step {m i : Nat} (h : i < m) (l : ByteArray) (out : List Int) : riS (m - i) l 0 out = riS (m - (i + 1)) (inN l).2.1 (inN l).2.2 (out ++ [uns (inN l).1]) := by
  unfold riS
  rw [if_pos rfl, show m - i = (m - (i + 1)) + 1 by omega, riL]
theorem riS_end {m i : Nat} {l : ByteArray} {e : Int} {out : List Int} (h : m ≤ i ∨ e ≠ 0) : riS (m - i) l e out = (l, e, out) := by
  unfold riS
  by_cases h0 : e = 0
  · rw [if_pos h0, show m - i = 0 by omega, h0]; rfl
  · rw [if_neg h0]
theorem riq_eq (s : ByteArray) : riQ s = finU (riS (inN s).1 (inN s).2.1 (inN s).2.2 []) := rfl
theorem fin_err {α : Type} {l : ByteArray} {e : Int} {out : List α} (h : e ≠ 0) : finU (l, e, out) = ([], e) := by unfold finU; rw [if_pos h]
theorem fin_more {α : Type} {l : ByteArray} {out : List α} (h : l ≠ ⟨#[]⟩) : finU (l, 0, out) = ([], 11) := by unfold finU; rw [if_neg (fun h9 => h9 rfl), if_pos h]
theorem fin_ok {α : Type} {out : List α} : finU ((⟨#[]⟩ : ByteArray), 0, out) = (out, 0) := by unfold finU; rw [if_neg (fun h9 => h9 rfl), if_neg (fun h9 => h9 rfl)]
theorem ext_ext (s : ByteArray) {a i : Nat} (h : a + i ≤ s.size) : (s.extract a s.size).extract i (s.extract a s.size).size = s.extract (a + i) s.size := bl_inj (by
  rw [bl_ext, bl_ext, bl_ext, ext_sz s (by omega), List.take_of_length_le (l := List.drop a _) (by rw [List.length_drop, bl_len]; exact Nat.le_refl _), List.drop_drop, show s.size - a - i = s.size - (a + i) by omega])
theorem ext_mid (s : ByteArray) {a n : Nat} (h : a + n ≤ s.size) : (s.extract a s.size).extract 0 n = s.extract a (a + n) := bl_inj (by
  rw [bl_ext, bl_ext, bl_ext, List.drop_zero, Nat.sub_zero, Nat.add_sub_cancel_left, List.take_take, Nat.min_eq_left (by omega)])
theorem ext_nil {s : ByteArray} {a : Nat} (h : a ≤ s.size) : s.extract a s.size = ⟨#[]⟩ ↔ ¬a < s.size := by
  constructor
  · intro e hlt
    have := congrArg ByteArray.size e
    rw [ext_sz s h] at this
    have h2 : (⟨#[]⟩ : ByteArray).size = 0 := rfl
    omega
  · intro hlt
    refine bl_inj ?_
    rw [bl_ext, show s.size - a = 0 by omega, List.take_zero]; rfl
theorem nx_err {l : ByteArray} {out : List ByteArray} (h : (rnL (bl l)).2.2 ≠ 0) : nxQ l out = (l, (rnL (bl l)).2.2, out) := by
  unfold nxQ
  rw [if_pos (show (inN l).2.2 ≠ 0 from h), (in_err (l := l) h).2.1]; rfl
theorem nx_at {s : ByteArray} {a : Nat} (ha : a ≤ s.size) {out : List ByteArray} {n z : Nat} (h : rnL (bl (s.extract a s.size)) = (n, z, 0)) : a + z ≤ s.size ∧ 1 ≤ z ∧ nxQ (s.extract a s.size) out = if s.size - (a + z) < n then (s.extract (a + z) s.size, 10, out) else (s.extract (a + z + n) s.size, 0, out ++ [s.extract (a + z) (a + z + n)]) := by
  have h0 : (rnL (bl (s.extract a s.size))).2.2 = 0 := by rw [h]
  obtain ⟨_, h2, h3, _⟩ := rn_ok h0
  rw [bl_len, ext_sz s ha, h] at h3
  rw [h] at h2
  dsimp only at h2 h3
  have haz : a + z ≤ s.size := by omega
  have hi : inN (s.extract a s.size) = (n, s.extract (a + z) s.size, 0) := by
    unfold inN
    rw [h]
    dsimp only
    rw [ext_ext s haz]
  refine ⟨haz, h2, ?_⟩
  unfold nxQ
  rw [hi]
  dsimp only
  rw [if_neg (fun h9 => h9 rfl), ext_sz s haz]
  split
  · rfl
  · rename_i hn
    rw [ext_mid s (by omega)]
    have := ext_ext s (a := a + z) (i := n) (by omega)
    rw [ext_sz s haz] at this
    rw [this]
theorem in_at {s : ByteArray} {a : Nat} (ha : a ≤ s.size) {n z : Nat} (h : rnL (bl (s.extract a s.size)) = (n, z, 0)) : a + z ≤ s.size ∧ 1 ≤ z ∧ n < 18446744073709551616 ∧ inN (s.extract a s.size) = (n, s.extract (a + z) s.size, 0) := by
  have h0 : (rnL (bl (s.extract a s.size))).2.2 = 0 := by rw [h]
  obtain ⟨_, h2, h3, h4⟩ := rn_ok h0
  rw [bl_len, ext_sz s ha, h] at h3
  rw [h] at h2 h4
  dsimp only at h2 h3 h4
  refine ⟨by omega, h2, h4, ?_⟩
  unfold inN
  rw [h]
  dsimp only
  rw [ext_ext s (by omega)]
end Go.PK

namespace Go.PK
open Go Go.RowKit
def recD (fn : FuncId) (tmps : Array Value) (ps : Array Tmp) (assign body : Code) (D : Nat) : Loop := { state := .done, pending := some .ret, fn, tmps, params := ps, assign, body, defers := D }
section
variable {P : Program} {m n : Nat} {l : List (Nat × Value)} {own rest : List (Nat × Obj)} {ro : List Snap} {Q : Exit → Act → World → Prop} {R : Ending → World → Prop} {L : Nat} {fn : FuncId} {tmps : Array Value} {assign body : Code} {D : Nat}
theorem s_roundR {ps : Array Tmp} (h : ∀ w', Mem w' ((L, .loop (recD fn tmps ps assign body D)) :: rest) ro → R (.returned (.bool false)) w') :
    S (roundPost P L R .ret) n l ((L, .loop (recL .busy fn tmps ps assign body D)) :: rest) ro := by
  intro a w ha hw
  have hl := hw.own_at _ (.head _)
  exact ⟨_, _, run_endRound (some .ret) hl, h _ (Mem.turn (l1 := []) hw (turned_put hl))⟩
theorem yield_one {w : World} {d1 : Nat} {v1 : Value} (hm : Mem w ((L, .loop (recL .ready fn tmps #[d1] assign body D)) :: rest) ro) (hfh : FH n l ⟨tmps, []⟩) (h1 : decide (d1 < n) = true)
    (h : WI (Fence.wide.inRound L) m P assign (Exit.then (fun a w => ∃ w2, (Instr.beginRound L).run P w = .ok () w2 ∧ body.wpIn (Fence.wide.inRound L) m P (roundPost P L R) a w2) (fun _ _ _ => False)) n ((d1, v1) :: l) ((L, .loop (recL .ready fn tmps #[d1] assign body D)) :: rest) ro) :
    YieldAt Fence.wide m P L #[v1] w R := by
  have hl := hm.own_at _ (.head _)
  have hy := run_yield (P := P) (args := #[v1]) hl rfl
  refine ⟨fn, _, assign, body, hy, roundIn_of_wpIn trivial (h _ w ?_ hm)⟩
  have := hfh.put v1 (of_decide_eq_true h1)
  have e : (#[d1] : Array Tmp).zip #[v1] = #[(d1, v1)] := by
    apply Array.ext'
    simp
  show FH n ((d1, v1) :: l) { tmps := ((#[d1] : Array Tmp).zip #[v1]).foldl (fun t (q : Tmp × Value) => t.setIfInBounds q.1 q.2) tmps, defers := [] }
  rw [e]
  exact this
theorem w_rangeX {g : Operand} {ps : Array Tmp} {gf : Nat} {lb : Array Value} {τ σ : Type} (I : τ → Prop) (O : τ → List (Nat × Obj)) (J : σ → Prop) (O2 : σ → List (Nat × Obj)) (hg : ev l g = some (.func (.func gf) #[] lb)) (eg : ∀ args w, (callFunc gf args).run P w = .ok (.enter gf args) w)
    (hc : ∀ (L D : Nat) (fn : FuncId) (tmps : Array Value) (w1 : World), FH n l ⟨tmps, []⟩ → Mem w1 ((L, .loop (recL .ready fn tmps ps assign body D)) :: (D, .deferred (some [])) :: own) ro →
      Calls P gf (#[.func (.yield L) #[] #[]] ++ lb) w1 fun e w2 => (∃ v, e = .returned v) ∧ ((∃ x, I x ∧ Mem w2 ((L, .loop (recL .ready fn tmps ps assign body D)) :: (D, .deferred (some [])) :: O x) ro) ∨ (∃ x, J x ∧ Mem w2 ((L, .loop (recD fn tmps ps assign body D)) :: (D, .deferred (some [])) :: O2 x) ro)))
    (h : ∀ D x, I x → SD D (Q .normal) n l ((D, .deferred (some [])) :: O x) ro) (h2 : ∀ D x, J x → SD D (Q .ret) n l ((D, .deferred (some [])) :: O2 x) ro) : W P (.rangeFunc g ps assign body) Q n l own ro := by
  intro a w ha hw
  refine (wpIn_wide (n := 1)).1 (wpIn_rangeFunc ?_)
  intro fn _
  have hgv := ha.eval hg
  have hdf : a.defers = [] := ha.df
  have h1 : Mem (w.alloc (.deferred (some []))) ((w.heap.size, .deferred (some [])) :: own) ro := hw.new _
  have h2' : Mem ((w.alloc (.deferred (some []))).alloc (.loop (recL .ready fn a.tmps ps assign body w.heap.size))) ((w.heap.size + 1, .loop (recL .ready fn a.tmps ps assign body w.heap.size)) :: (w.heap.size, .deferred (some [])) :: own) ro := by
    have h3 := h1.new (.loop (recL .ready fn a.tmps ps assign body w.heap.size))
    rwa [World.size_alloc] at h3
  have hfh : FH n l ⟨a.tmps, []⟩ := ⟨ha.sz, rfl, ha.at_⟩
  have hC := hc _ _ fn a.tmps _ hfh h2'
  have hC2 : CallsIn Fence.wide 0 P gf (#[.func (.yield (w.heap.size + 1)) #[] #[]] ++ lb) ((w.alloc (.deferred (some []))).alloc (.loop (recL .ready fn a.tmps ps assign body w.heap.size))) (rangePost Fence.wide 1 P (w.heap.size + 1) Q { a with defers := [{ target := .collected w.heap.size, args := #[] }] ++ a.defers }) := by
    refine callsIn_wide.2 (Calls.mono hC ?_)
    rintro e w2 ⟨⟨v, rfl⟩, ⟨x, hx, hm⟩ | ⟨x, hx, hm⟩⟩
    · have hl := hm.own_at _ (.head _)
      refine ⟨none, _, run_endLoop hl (by simp [recL]), ?_⟩
      have h4 := Mem.turn (l1 := []) hm (turned_put (o' := .loop { recL .ready fn a.tmps ps assign body w.heap.size with state := .exhausted }) hl)
      have h5 := h _ x hx a _ ha (h4.less (List.sublist_cons_self _ _) (fun _ h => h))
      rw [hdf]
      exact h5
    · have hl := hm.own_at _ (.head _)
      refine ⟨some .ret, _, run_endLoop hl (by simp [recD]), ?_⟩
      have h4 := Mem.turn (l1 := []) hm (turned_put (o' := .loop { recD fn a.tmps ps assign body w.heap.size with state := .exhausted }) hl)
      have h5 := h2 _ x hx a _ ha (h4.less (List.sublist_cons_self _ _) (fun _ h => h))
      rw [hdf]
      exact (wpIn_wide (n := 1)).2 (wp_ret h5)
  clear hC h2' h1
  have hres : (resolve a.eval (rangeCall g (w.heap.size + 1)) 0).run P ((w.alloc (.deferred (some []))).alloc (.loop (recL .ready fn a.tmps ps assign body w.heap.size))) = .ok { target := .fn (.func gf) lb, args := #[.func (.yield (w.heap.size + 1)) #[] #[]] } ((w.alloc (.deferred (some []))).alloc (.loop (recL .ready fn a.tmps ps assign body w.heap.size))) := by
    simp only [resolve, hgv]
    simp [go_sem]
  have hinv : ∀ W : World, (invoke (.fn (.func gf) lb) #[.func (.yield (w.heap.size + 1)) #[] #[]]).run P W = .ok (.enter gf (#[.func (.yield (w.heap.size + 1)) #[] #[]] ++ lb)) W := fun W => by simp [invoke, go_sem, eg]
  exact ⟨w.heap.size + 1, [{ target := .collected w.heap.size, args := #[] }], _, _, _, gf, _, _, run_enterLoop_outer _ _ _ _ _, hres, fun _ _ => trivial, hinv _, fun h => by simp [Fence.wide] at h, hC2⟩
theorem results_cell_cell {fd : Func} {p u : Tmp} {ty ty2 : TypeId} (h : fd.results = #[.cell p ty, .cell u ty2]) (tmps : Array Value) (P : Program) (w : World) :
    (results fd tmps).run P w =
      ((asAddr (tmps.getD p undef)).run P w).andThen fun a w₁ => ((loadVar ty a).run P w₁).andThen fun v w₂ => ((asAddr (tmps.getD u undef)).run P w₂).andThen fun a2 w₃ => ((loadVar ty2 a2).run P w₃).andThen fun v2 w₄ => .ok (.tuple #[v, v2]) w₄ := by
  simp only [results, h]
  simp [Sem.run_bind, Result.andThen]
theorem run_cell1 {w : World} {b : Nat} {ty : TypeId} {td : TypeDesc} {v : Value} (ht : P.underlying ty = some td) (hd : aggT td = false) (hc : w.cell? ⟨b, 0, none⟩ = some v) : (loadVar ty ⟨b, 0, none⟩).run P w = .ok v w := by
  simp [loadVar, run_isAgg ht, hd, hc]
theorem ret2M0 {fd : Func} {t u : Tmp} {ty ty2 : TypeId} {td td2 : TypeDesc} {b b2 : Nat} {v v2 : Value} (hr : fd.results = #[.cell t ty, .cell u ty2]) (hv : l.lookup t = some (.pointer (some ⟨b, 0, none⟩))) (hu : l.lookup u = some (.pointer (some ⟨b2, 0, none⟩)))
    (ht : P.underlying ty = some td) (hd : aggT td = false) (ht2 : P.underlying ty2 = some td2) (hd2 : aggT td2 = false) (hc : At own ro b 0 v) (hc2 : At own ro b2 0 v2) (h : ∀ w', Mem w' own ro → R (.returned (.tuple #[v, v2])) w') : S (bodyPostM Fence.wide m P fd R .ret) n l own ro := by
  intro a w ha hw
  have h1 := ha.at_ t _ hv
  have h2 := ha.at_ u _ hu
  show LeavesInM Fence.wide m P fd a.tmps R a.defers .returning w
  rw [ha.df]
  refine ⟨_, ?_, h w hw⟩
  rw [results_cell_cell hr, show a.tmps.getD t undef = .pointer (some ⟨b, 0, none⟩) by simp [Array.getD_eq_getD_getElem?, h1], show a.tmps.getD u undef = .pointer (some ⟨b2, 0, none⟩) by simp [Array.getD_eq_getD_getElem?, h2]]
  simp [asAddr, run_cell1 ht hd (hc w hw), run_cell1 ht2 hd2 (hc2 w hw)]
theorem ret2M {fd : Func} {t u : Tmp} {ty ty2 : TypeId} {td td2 : TypeDesc} {b b2 : Nat} {v v2 : Value} (hr : fd.results = #[.cell t ty, .cell u ty2]) (hv : l.lookup t = some (.pointer (some ⟨b, 0, none⟩))) (hu : l.lookup u = some (.pointer (some ⟨b2, 0, none⟩)))
    (ht : P.underlying ty = some td) (hd : aggT td = false) (ht2 : P.underlying ty2 = some td2) (hd2 : aggT td2 = false) (hc : At rest ro b 0 v) (hc2 : At rest ro b2 0 v2) (h : ∀ w', Mem w' rest ro → R (.returned (.tuple #[v, v2])) w') : SD D (bodyPostM Fence.wide m P fd R .ret) n l ((D, .deferred (some [])) :: rest) ro := by
  intro a w ha hw
  have hl := hw.own_at _ (.head _)
  have hm2 := (Mem.turn (l1 := []) hw (turned_put (o' := .deferred none) hl)).less (List.sublist_cons_self _ _) (fun _ h => h)
  refine ⟨by simp, .inl ⟨D, _, rfl, run_takeDeferred hl, (.tuple #[v, v2]), ?_, h _ hm2⟩⟩
  have h1 := ha.at_ t _ hv
  have h2 := ha.at_ u _ hu
  show (results fd a.tmps).run P _ = _
  rw [results_cell_cell hr, show a.tmps.getD t undef = .pointer (some ⟨b, 0, none⟩) by simp [Array.getD_eq_getD_getElem?, h1], show a.tmps.getD u undef = .pointer (some ⟨b2, 0, none⟩) by simp [Array.getD_eq_getD_getElem?, h2]]
  simp [asAddr, run_cell1 ht hd (hc _ hm2), run_cell1 ht2 hd2 (hc2 _ hm2)]
theorem sdl_store {ops : Array Oper} {t ty : TypeId} {x y : Operand} {pos : String} {af : Array Edge} {r : List Oper} {v : Value} {b off k : Nat} {e : TypeId} {cs : List Value} (l1 : List (Nat × Obj)) {l2 : List (Nat × Obj)} (hx : ev l x = some (.pointer (some ⟨b, off, none⟩))) (hy : ev l y = some v)
    (hown : own = l1 ++ (b, .cells cs.toArray e (0, 0)) :: l2) (hs : (P.info? t).map (·.size) = some k) (hm : (decide (v.cells.size = k) && v.cells.toList.all (fun u => u.oneCell')) = true) (hb : off + k ≤ cs.length)
    (h : SDL D P ops Q r n l (l1 ++ (b, .cells (cs.take off ++ v.cells.toList ++ cs.drop (off + k)).toArray e (0, 0)) :: l2) ro) : SDL D P ops Q (⟨none, .store t x y, ty, pos, af, none⟩ :: r) n l own ro := by
  subst hown
  intro a w ha hw
  simp only [Bool.and_eq_true, decide_eq_true_eq, List.all_eq_true] at hm
  obtain ⟨hm, h1⟩ := hm
  refine wpList_step fun K hK => ?_
  rw [if_pos (by simp [Region.wanted])]
  have he : (Act.eval { a with defers := [{ target := .collected D, args := #[] }] }) = a.eval := by funext x; cases x <;> rfl
  have hg : w.heap[b]? = some (.cells cs.toArray e (0, 0)) := hw.own_at (b, _) (by simp)
  have hlen : v.cells.toList.length = k := by simpa using hm
  have hst := run_storeCells_at (P := P) b off e v.cells.toList 0 cs.toArray w hg (by simp only [List.size_toArray]; omega) h1
  have hst2 : (storeVar t ⟨b, off, none⟩ v).run P w = .ok () (w.setRow b (cs.take off ++ v.cells.toList ++ cs.drop (off + k)).toArray) := by
    simp only [storeVar, Sem.run_bind, run_sizeOf hs, Result.andThen_ok, hm, ne_eq, not_true, if_false, hst, Nat.add_zero, hlen]
  unfold Oper.wp
  rw [he]
  have hrun : (execOp a.eval ⟨none, .store t x y, ty, pos, af, none⟩).run P w = .ok .skip (w.setRow b (cs.take off ++ v.cells.toList ++ cs.drop (off + k)).toArray) := by
    simp only [execOp, ha.eval hx, ha.eval hy, Instr.storeAt, Instr.sureAddr, Sem.run_bind, Sem.run_pure, Result.andThen_ok, hst2]
  rw [hrun]
  exact hK _ _ (h a _ ha (hw.turn (turned_setRow hg)))
end
section
variable {P : Program} {m n : Nat} {l : List (Nat × Value)} {own : List (Nat × Obj)} {ro : List Snap} {Q : Exit → Act → World → Prop}
theorem s_yieldV {lops : List Oper} {j d t L : Nat} {xs : Array Operand} {tys : Array TypeId} {ty : TypeId} {pos : String} {af : Array Edge} {vs : List Value} {τ : Type} (V : τ → Value) (I : τ → Prop) (O : τ → List (Nat × Obj))
    (ho : lops[j]? = some ⟨some d, .call ⟨.value (.tmp t), xs, tys⟩, ty, pos, af, none⟩) (hd : decide (d < n) = true) (hf : l.lookup t = some (.func (.yield L) #[] #[])) (hx : evs l xs.toList = some vs) (hm : decide (1 ≤ m) = true)
    (hY : ∀ w, Mem w own ro → YieldAt Fence.wide (m - 1) P L vs.toArray w fun e w' => ∃ x, e = .returned (V x) ∧ I x ∧ Mem w' (O x) ro)
    (h : ∀ x, I x → S (fun a w => wpListIn Fence.wide m P lops.toArray Q (lops.drop (j + 1)) a w) n ((d, V x) :: l) (O x) ro) : S (fun a w => wpListIn Fence.wide m P lops.toArray Q (lops.drop j) a w) n l own ro := by
  intro a w ha hw
  have hlt : j < lops.length := (List.getElem?_eq_some_iff.1 ho).1
  have he : lops[j] = ⟨some d, .call ⟨.value (.tmp t), xs, tys⟩, ty, pos, af, none⟩ := by
    rw [List.getElem?_eq_getElem hlt] at ho; exact Option.some.inj ho
  obtain ⟨fn, tmps, assign, body, hy, hR⟩ := hY w hw
  show wpListIn Fence.wide m P lops.toArray Q (lops.drop j) a w
  rw [List.drop_eq_getElem_cons hlt, he]
  refine wpListIn_plain rfl fun K hK => ?_
  refine ⟨fun _ _ => trivial, ?_⟩
  rw [Oper.semAt_eq _ _ _ (fun c e => by cases e)]
  have hev := ha.evals hx
  have hrun : (execOp a.eval ⟨some d, .call ⟨.value (.tmp t), xs, tys⟩, ty, pos, af, none⟩).run P w = .ok (.round L fn tmps assign body) w := by
    have h1 : (xs.map a.eval) = vs.toArray := by
      apply Array.ext'
      rw [Array.toList_map, hev]
    have hft : a.tmps[t]?.getD undef = .func (.yield L) #[] #[] := by rw [ha.at_ t _ hf]; rfl
    simp [execOp, resolve, hft, h1, go_sem, invoke, hy]
  rw [hrun]
  refine ⟨fun _ => of_decide_eq_true hm, ?_⟩
  refine hR.mono ?_
  rintro e w' ⟨x, rfl, hI, hm'⟩
  exact hK _ _ (h x hI _ w' (ha.put (V x) (of_decide_eq_true hd)) hm')
theorem v_scut_3 {t ty : TypeId} {x y z z' : Operand} {e : TypeId} {A : Option Addr} {len cap i j k m : Nat} {k1 k2 k3 : IntKind} (ht : P.underlying t = some (.slice e)) (hs : (P.info? e).map (·.size) = some m) (hx : ev l x = some (.slice A len cap)) (hy : ev l y = some (.int k1 (i : Nat))) (hz : ev l z = some (.int k2 (j : Nat))) (hz' : ev l z' = some (.int k3 (k : Nat))) (hij : i ≤ j) (hjk : j ≤ k) (hk : k ≤ cap) :
    OpV P n l own ro (.slice t x (some y) (some z) (some z')) ty (.slice (if k = i then A else A.map (fun a => a.add (i * m))) (j - i) (k - i)) := by
  intro a w o ha hw ho _
  have h2 : (Instr.sliceAt t (.slice A len cap) (some (.int k1 (i : Nat))) (some (.int k2 (j : Nat))) (some (.int k3 (k : Nat)))).run P w = .ok (.slice (if k = i then A else A.map (fun a => a.add (i * m))) (j - i) (k - i)) w := by
    simp [Instr.sliceAt, Instr.slice, Instr.sliceBounds, Instr.sliceBound, asIntOf, run_underlying ht, hij, hjk, hk, run_sizeOf hs]
  simp [execOp, ho, ha.eval hx, ha.eval hy, ha.eval hz, ha.eval hz', h2]
theorem v_chunk {t ty : TypeId} {x y z z' : Operand} {e : TypeId} {A : Option Addr} {len cap i n0 m : Nat} {k1 k2 k3 : IntKind} (ht : P.underlying t = some (.slice e)) (hs : (P.info? e).map (·.size) = some m) (hx : ev l x = some (.slice A len cap)) (hy : ev l y = some (.int k1 (i : Nat))) (hz : ev l z = some (.int k2 ((i + n0 : Nat) : Int))) (hz' : ev l z' = some (.int k3 ((i + n0 : Nat) : Int))) (h0 : 0 < n0) (hk : i + n0 ≤ cap) :
    OpV P n l own ro (.slice t x (some y) (some z) (some z')) ty (.slice (A.map (fun a => a.add (i * m))) n0 n0) := by
  have h := v_scut_3 (n := n) (own := own) (ro := ro) (ty := ty) ht hs hx hy hz hz' (by omega) (Nat.le_refl _) hk
  rw [if_neg (by omega), Nat.add_sub_cancel_left] at h
  exact h
end
end Go.PK

namespace Go.PK
open Go Go.RowKit
section
variable {P : Program} {oF : List (Nat × Obj)} {rF : List Snap}
theorem any_region_can {Q : Exit → Act → World → Prop} {a : Act} {w : World} {l : List Oper} (n : Nat) (plan : List (Bool × Nat)) (hB : canB .any l.toArray n plan = true)
    (h : wpCan P l.toArray (fun a' w' => ∀ w'', Later w' w'' → wpList P l.toArray Q (l.drop n) a' w'') plan a w) : wpAny P .any l.toArray Q l.toArray.size (Array.replicate l.toArray.size false) a { w with drawn := w.drawn + 1 } := by
  simp only [canB, Bool.and_eq_true, decide_eq_true_eq] at hB
  obtain ⟨⟨⟨hsel, hn⟩, hlen⟩, hpl⟩ := hB
  have hnle : n ≤ l.toArray.size := by
    rcases Bool.or_eq_true _ _ ▸ hn with hn | hn
    · simp only [decide_eq_true_eq] at hn; omega
    · simp only [Bool.and_eq_true, decide_eq_true_eq] at hn; omega
  have hnt : ∀ i, i < n → ∀ listed, HeadInv .any l.toArray n listed → listed.getD i true = false → ∀ j ∈ Region.ready .any l.toArray listed, j < n := by
    intro i hin listed inv hun j hj
    rcases Bool.or_eq_true _ _ ▸ hn with hn | hn
    · simp only [decide_eq_true_eq] at hn
      have := ready_lt j hj
      omega
    · simp only [Bool.and_eq_true, decide_eq_true_eq] at hn
      obtain ⟨⟨hn, hs⟩, hc⟩ := hn
      rcases Nat.lt_or_ge j n with h | h
      · exact h
      · exact absurd hj (tail_waits hs hc hn inv _ i rfl hin hun j h)
  have inv0 : HeadInv .any l.toArray n (Array.replicate l.toArray.size false) :=
    ⟨by simp, fun j oj _ hl => (by rw [getD_replicate_false] at hl; cases hl), fun t _ ht => getD_in (by simpa using ht) (getD_replicate_false _ _)⟩
  have H := wpAnyC_plan (P := P) (md := .any) (Q := fun a' w' => ∀ w'', Later w' w'' → wpList P l.toArray Q (l.drop n) a' w'') (fun a w w' hw hq w'' hw'' => hq w'' (hw.trans hw'')) hsel hnt plan _ a w inv0 hpl h
  have hdl : (l.drop n).length = l.toArray.size - n := by simp
  have := wpAny_of_can (Q' := Q) (g := l.toArray.size - n) (fun listed a' w' hL => by
    have := wpAny_of_seq (md := .any) (Q' := Q) (l.drop n) n listed a' w' (fun j => by simp [List.getElem?_drop]) (by rw [hdl]; exact hL.1) (hL.2 w' (Later.refl _))
    rwa [hdl] at this) _ _ _ _ (wpAnyC_later (fun _ _ _ _ hw hq => ⟨hq.1, fun w2 h2 => hq.2 w2 (hw.trans h2)⟩) _ _ _ _ _ (Later.drew w) H)
  rw [hlen, show n + (l.toArray.size - n) = l.toArray.size by omega] at this
  exact this
theorem any_region_inv {Q : Exit → Act → World → Prop} {a : Act} {w : World} {l : List Oper} (n : Nat) (t : Pl) 
    (hB : (Region.noSelect l.toArray && (decide (n = l.toArray.size) || (decide (n < l.toArray.size) && Region.sinkB .any l.toArray n && Region.chainB .any l.toArray n)) && treeB .any l.toArray n false n t (Array.replicate l.toArray.size false)) = true)
    (hw : Mem w oF rF) (h : wpJ P l.toArray oF rF (fun a' w' => ∀ w'', Later w' w'' → wpList P l.toArray Q (l.drop n) a' w'') t a w) : wpAny P .any l.toArray Q l.toArray.size (Array.replicate l.toArray.size false) a { w with drawn := w.drawn + 1 } := by
  simp only [Bool.and_eq_true] at hB
  obtain ⟨⟨hsel, hn⟩, hpl⟩ := hB
  have hnle : n ≤ l.toArray.size := by
    rcases Bool.or_eq_true _ _ ▸ hn with hn | hn
    · simp only [decide_eq_true_eq] at hn; omega
    · simp only [Bool.and_eq_true, decide_eq_true_eq] at hn; omega
  have hnt : ∀ i, i < n → ∀ listed, HeadInv .any l.toArray n listed → listed.getD i true = false → ∀ j ∈ Region.ready .any l.toArray listed, j < n := by
    intro i hin listed inv hun j hj
    rcases Bool.or_eq_true _ _ ▸ hn with hn | hn
    · simp only [decide_eq_true_eq] at hn
      have := ready_lt j hj
      omega
    · simp only [Bool.and_eq_true, decide_eq_true_eq] at hn
      obtain ⟨⟨hn, hs⟩, hc⟩ := hn
      rcases Nat.lt_or_ge j n with h | h
      · exact h
      · exact absurd hj (tail_waits hs hc hn inv _ i rfl hin hun j h)
  have inv0 : HeadInv .any l.toArray n (Array.replicate l.toArray.size false) :=
    ⟨by simp, fun j oj _ hl => (by rw [getD_replicate_false] at hl; cases hl), fun t _ ht => getD_in (by simpa using ht) (getD_replicate_false _ _)⟩
  have H := (wpAnyJ_tree (P := P) (md := .any) (oF := oF) (rF := rF) (Q := fun a' w' => ∀ w'', Later w' w'' → wpList P l.toArray Q (l.drop n) a' w'') (fun a w w' hw hq w'' hw'' => hq w'' (hw.trans hw'')) hsel hnt t n _ a w inv0).1 hpl h
  have hdl : (l.drop n).length = l.toArray.size - n := by simp
  have := wpAny_of_canJ (Q' := Q) (g := l.toArray.size - n) (oF := oF) (rF := rF) (fun listed a' w' _ hL => by
    have := wpAny_of_seq (md := .any) (Q' := Q) (l.drop n) n listed a' w' (fun j => by simp [List.getElem?_drop]) (by rw [hdl]; exact hL.1) (hL.2 w' (Later.refl _))
    rwa [hdl] at this) _ _ _ _ (hw.later (Later.drew w)) (wpAnyJ_later (fun _ _ _ _ hw hq => ⟨hq.1, fun w2 h2 => hq.2 w2 (hw.trans h2)⟩) _ _ _ _ _ (Later.drew w) H)
  rw [show n + (l.toArray.size - n) = l.toArray.size by omega] at this
  exact this
theorem any_fence {F : Fence} {m : Nat} (hF : Lets F m P) {lops : List Oper} {Q : Exit → Act → World → Prop} (hno : ¬LetsOut Q) (hd : lops.all (fun o => match o.op with | .defer _ => false | _ => true) = true) :
    ∀ (f : Nat) (listed : Array Bool) (a : Act) (w : World), wpAny P .any lops.toArray Q f listed a w → wpAnyIn F m P .any lops.toArray Q f listed a w
  | 0, listed, a, w, h => h
  | f + 1, listed, a, w, h => by
    obtain ⟨h1, h2⟩ := h
    refine ⟨h1, fun i hi => ?_⟩
    have h3 := h2 i hi
    unfold wpOp at h3
    unfold wpOpIn
    cases ho : lops.toArray[i]? with
    | none => rw [ho] at h3; exact any_fence hF hno hd f _ a w h3
    | some o =>
      rw [ho] at h3
      dsimp only at h3 ⊢
      split at h3
      · rename_i hw
        rw [if_pos hw]
        rcases h3 with h3 | h3
        · have hmem : o ∈ lops := by
            rw [List.getElem?_toArray] at ho
            exact List.mem_of_getElem? ho
          exact hF.op (no_defer hd hmem) (Oper.wp_mono (fun a' w' hk => any_fence hF hno hd f _ a' w' hk) h3)
        · exact absurd h3.2 hno
      · rename_i hw
        rw [if_neg hw]
        exact ⟨fun g _ => hF.fn g, any_fence hF hno hd f _ _ w h3⟩
end
section
variable {P : Program} {m n : Nat} {l : List (Nat × Value)} {own : List (Nat × Obj)} {ro : List Snap} {F : Fence} {Q : Exit → Act → World → Prop}
theorem ri_draw (hF : Lets F m P) (hno : ¬LetsOut Q) {id : Nat} {lops : List Oper} (k : Nat) (plan : List (Bool × Nat)) (hm : P.follows .mixedOrders = true) (hB : canB .any lops.toArray k plan = true) (hd : lops.all (fun o => match o.op with | .defer _ => false | _ => true) = true)
    (h : WX P lops.toArray Q (fun a w => Q .normal a w) ((plan.map fun p => (some p.1, p.2)) ++ tailFrom k lops.length) n l own ro) : WI F m P (.region id lops.toArray true) Q n l own ro := fun a w ha hw =>
  wpIn_region_any hm (any_fence hF hno hd _ _ _ _ (any_region_can k plan hB (wpCan_of_X k plan a w (h a w ha hw))))
theorem ri_inv (hF : Lets F m P) (hno : ¬LetsOut Q) {id : Nat} {lops : List Oper} (oF : List (Nat × Obj)) (k : Nat) (t : Pl) (hsub : oF.Sublist own) (hm : P.follows .mixedOrders = true)
    (hB : (Region.noSelect lops.toArray && (decide (k = lops.toArray.size) || (decide (k < lops.toArray.size) && Region.sinkB .any lops.toArray k && Region.chainB .any lops.toArray k)) && treeB .any lops.toArray k false k t (Array.replicate lops.toArray.size false)) = true) (hd : lops.all (fun o => match o.op with | .defer _ => false | _ => true) = true)
    (h : S (wpJ P lops.toArray oF ro (fun a' w' => ∀ w'', Later w' w'' → wpList P lops.toArray Q (lops.drop k) a' w'') t) n l own ro) : WI F m P (.region id lops.toArray true) Q n l own ro := fun a w ha hw =>
  wpIn_region_any hm (any_fence hF hno hd _ _ _ _ (any_region_inv k t hB (hw.less hsub (fun _ h => h)) (h a w ha hw)))
theorem wi_ret (h : S (Q .ret) n l own ro) : WI F m P .ret Q n l own ro := fun a w ha hw => wpIn_ret (h a w ha hw)
theorem no_round {L : Nat} {R : Ending → World → Prop} : ¬LetsOut (roundPost P L R) := fun ⟨_, _, h⟩ => h
theorem no_then {K : Act → World → Prop} (h : ¬LetsOut Q) : ¬LetsOut (Exit.then K Q) := fun ⟨a, w, h1⟩ => h ⟨a, w, h1⟩
theorem no_block {id : Nat} (h : ¬LetsOut Q) : ¬LetsOut (Exit.inBlock id Q) := fun ⟨a, w, h1⟩ => h ⟨a, w, h1⟩
theorem w_rangeR {assign body : Code} {g : Operand} {ps : Array Tmp} {gf : Nat} {lb : Array Value} {τ σ : Type} (I : τ → Prop) (O : τ → List (Nat × Obj)) (J : σ → Prop) (O2 : σ → List (Nat × Obj)) (hg : ev l g = some (.func (.func gf) #[] lb)) (eg : ∀ args w, (callFunc gf args).run P w = .ok (.enter gf args) w)
    (hc : ∀ (L D : Nat) (fn : FuncId) (tmps : Array Value) (w1 : World) (rr rd : Loop), rr = recL .ready fn tmps ps assign body D → rd = recD fn tmps ps assign body D → FH n l ⟨tmps, []⟩ → Mem w1 ((L, .loop rr) :: (D, .deferred (some [])) :: own) ro →
      Calls P gf (#[.func (.yield L) #[] #[]] ++ lb) w1 fun e w2 => (∃ v, e = .returned v) ∧ ((∃ x, I x ∧ Mem w2 ((L, .loop rr) :: (D, .deferred (some [])) :: O x) ro) ∨ (∃ x, J x ∧ Mem w2 ((L, .loop rd) :: (D, .deferred (some [])) :: O2 x) ro)))
    (h : ∀ D x, I x → SD D (Q .normal) n l ((D, .deferred (some [])) :: O x) ro) (h2 : ∀ D x, J x → SD D (Q .ret) n l ((D, .deferred (some [])) :: O2 x) ro) : W P (.rangeFunc g ps assign body) Q n l own ro :=
  w_rangeX I O J O2 hg eg (fun L D fn tmps w1 hf hm => hc L D fn tmps w1 _ _ rfl rfl hf hm) h h2
end
end Go.PK

namespace Go.PK
open Go Go.RowKit
def entB (nx a b c d : Int) : Prop := nx ≤ a ∧ a ≤ b ∧ b - a < 100 ∧ b < 100000 ∧ (c = 0 ∨ c = 1) ∧ okDay d
instance (nx a b c d : Int) : Decidable (entB nx a b c d) := by unfold entB; exact inferInstance
def opE : Int → List Int → Option (List Ent)
  | _, [] => some []
  | nx, a :: b :: c :: d :: r => if entB nx a b c d then (opE (b + 1) r).map (⟨a, b, decide (c = 1), d⟩ :: ·) else none
  | _, _ => none
def nthS (l : List ByteArray) (k : Nat) : ByteArray := l.getD k ⟨#[]⟩
def headQ (rd : ByteArray → Pat × Int) (t : ByteArray) : Pat × Int := if t ≠ ⟨#[]⟩ then rd t else (zeroPat, 0)
noncomputable def openG (rd : ByteArray → Pat × Int) (s : ByteArray) : Option (Pat × List Ent) :=
  if (unpQ s).2 ≠ 0 ∨ (unpQ s).1.length ≠ 2 then none else
  if (headQ rd (nthS (unpQ s).1 0)).2 ≠ 0 ∨ (riQ (nthS (unpQ s).1 1)).2 ≠ 0 ∨ (riQ (nthS (unpQ s).1 1)).1.length % 4 ≠ 0 ∨ (0 < (riQ (nthS (unpQ s).1 1)).1.length ∧ nthS (unpQ s).1 0 = ⟨#[]⟩) then none else
  (opE 0 (riQ (nthS (unpQ s).1 1)).1).map fun es => ((headQ rd (nthS (unpQ s).1 0)).1, es)
theorem opE_ents : ∀ (es : List Ent) (nx : Int), srt es → (∀ x ∈ es, nx ≤ x.fr) → opE nx (entsI es) = some es
  | [], nx, _, _ => rfl
  | x :: es, nx, hs, hn => by
    obtain ⟨h1, h2, h3, h4, h5⟩ := hs.2 x (List.mem_cons_self ..)
    have hp := List.pairwise_cons.1 hs.1
    have ih := opE_ents es (x.to + 1) ⟨hp.2, fun y hy => hs.2 y (List.mem_cons_of_mem _ hy)⟩ (fun y hy => by have := hp.1 y hy; omega)
    show opE nx (x.fr :: x.to :: (if x.sk then 1 else 0) :: x.day :: entsI es) = _
    have hB : entB nx x.fr x.to (if x.sk = true then 1 else 0) x.day := ⟨hn x (List.mem_cons_self ..), h2, by omega, h3, by cases x.sk <;> simp, h5⟩
    rw [opE, if_pos hB, ih]
    have e : (⟨x.fr, x.to, decide ((if x.sk = true then (1 : Int) else 0) = 1), x.day⟩ : Ent) = x := by
      obtain ⟨a, b, c, d⟩ := x
      cases c <;> rfl
    rw [e]; rfl
theorem opE_back : ∀ (n : Nat) (l : List Int) (nx : Int) (es : List Ent), l.length ≤ n → 0 ≤ nx → opE nx l = some es → srt es ∧ entsI es = l ∧ ∀ x ∈ es, nx ≤ x.fr
  | _, [], nx, es, _, _, h => by
    rw [opE] at h
    injection h with h
    subst h
    exact ⟨srt_nil, rfl, fun x hx => by cases hx⟩
  | 0, _ :: _, nx, es, hl, _, h => by simp at hl
  | n + 1, a :: b :: c :: d :: r, nx, es, hl, h0, h => by
    rw [opE] at h
    split at h
    · rename_i hB
      obtain ⟨es', h1, h2⟩ := Option.map_eq_some_iff.1 h
      obtain ⟨b1, b2, b3, b4, b5, b6⟩ := hB
      obtain ⟨i1, i2, i3⟩ := opE_back n r (b + 1) es' (by simp only [List.length_cons] at hl; omega) (by omega) h1
      subst h2
      have hx : entOK ⟨a, b, decide (c = 1), d⟩ := ⟨by show 0 ≤ a; omega, b2, b4, b3, b6⟩
      refine ⟨⟨List.pairwise_cons.2 ⟨fun y hy => by have := i3 y hy; show b < y.fr; omega, i1.1⟩, fun y hy => ?_⟩, ?_, fun y hy => ?_⟩
      · rcases List.mem_cons.1 hy with rfl | hy
        · exact hx
        · exact i1.2 y hy
      · show [a, b, (if decide (c = 1) = true then (1 : Int) else 0), d] ++ entsI es' = _
        rw [i2]
        have e : (if decide (c = 1) = true then (1 : Int) else 0) = c := by
          rcases b5 with rfl | rfl <;> rfl
        rw [e]; rfl
      · rcases List.mem_cons.1 hy with rfl | hy
        · exact b1
        · have := i3 y hy; omega
    · cases h
  | n + 1, [_], nx, es, _, _, h => by simp [opE] at h
  | n + 1, [_, _], nx, es, _, _, h => by simp [opE] at h
  | n + 1, [_, _, _], nx, es, _, _, h => by simp [opE] at h
theorem ri_len {s : ByteArray} {xs : List Int} (h : riQ s = (xs, 0)) : xs.length ≤ s.size := by
  have h1 := congrArg List.length (riq_back h).1
  rw [bl_len] at h1
  unfold intsG at h1
  rw [List.length_append] at h1
  have h2 : ∀ l : List Int, l.length ≤ (l.flatMap fun n => numG (sgn n)).length := fun l => by
    induction l with
    | nil => exact Nat.le_refl _
    | cons x l ih => rw [List.flatMap_cons, List.length_append, List.length_cons]; have := numG_pos (sgn x); omega
  have := h2 xs
  omega
theorem open_enc {rd : ByteArray → Pat × Int} {p : Pat} {es : List Ent} (hr : rd (writeQ p) = (p, 0)) (hne : writeQ p ≠ ⟨#[]⟩) (hw : (writeQ p).size < 18446744073709551616) (hs : srt es) (hl : es.length ≤ 100000) : openG rd (encQ p es) = some (p, es) := by
  have hin := entsI_in (fun x hx => (hs.2 x hx).in)
  have hlen := entsI_len es
  have hiz : (⟨(intsG (entsI es)).toArray⟩ : ByteArray).size < 18446744073709551616 := by
    rw [← bl_len, bl_mk, ← intsT_all]
    have := intsT_len (l := entsI es) (by omega) hin _ (Nat.le_refl _)
    omega
  have hu : unpQ (encQ p es) = ([writeQ p, ⟨(intsG (entsI es)).toArray⟩], 0) := unp_pack (show (2 : Nat) < 18446744073709551616 by decide) (fun s hs => by
    rcases List.mem_cons.1 hs with rfl | hs
    · exact hw
    · rw [List.mem_singleton.1 hs]; exact hiz)
  have hri : riQ ⟨(intsG (entsI es)).toArray⟩ = (entsI es, 0) := ri_ints (by omega) hin
  have e0 : nthS [writeQ p, ⟨(intsG (entsI es)).toArray⟩] 0 = writeQ p := rfl
  have e1 : nthS [writeQ p, ⟨(intsG (entsI es)).toArray⟩] 1 = ⟨(intsG (entsI es)).toArray⟩ := rfl
  have hh : headQ rd (writeQ p) = (p, 0) := by unfold headQ; rw [if_pos hne, hr]
  unfold openG
  rw [hu, if_neg (by simp)]
  dsimp only
  rw [e0, e1, hri, hh, if_neg (by
    dsimp only
    rw [hlen]
    intro h
    rcases h with h | h | h | h
    · exact h rfl
    · exact h rfl
    · omega
    · exact hne h.2), opE_ents es 0 hs (fun x hx => (hs.2 x hx).1)]
  rfl
theorem open_back {rd : ByteArray → Pat × Int} (hrd : ∀ t, (rd t).2 = 0 → rightQ (rd t).1 ∧ writeQ (rd t).1 = t) {s : ByteArray} {p : Pat} {es : List Ent} (h : openG rd s = some (p, es)) :
    encQ p es = s ∧ srt es ∧ (rightQ p ∨ (p = zeroPat ∧ es = [])) ∧ (unpQ s).2 = 0 := by
  unfold openG at h
  split at h
  · cases h
  · rename_i h1
    rw [not_or, Decidable.not_not, Decidable.not_not] at h1
    obtain ⟨h1, h2⟩ := h1
    split at h
    · cases h
    · rename_i h3
      rw [not_or, not_or, not_or, Decidable.not_not, Decidable.not_not, Decidable.not_not] at h3
      obtain ⟨h3, h4, h5, h6⟩ := h3
      obtain ⟨es', g1, g2⟩ := Option.map_eq_some_iff.1 h
      injection g2 with g2 g3
      subst g3
      obtain ⟨xs, hxs⟩ : ∃ xs, (unpQ s).1 = xs := ⟨_, rfl⟩
      rw [hxs] at h2 h3 h4 h5 h6 g1 g2
      have hub := unp_back (s := s) (xs := xs) (by rw [← hxs, ← h1])
      obtain ⟨t0, t1, rfl⟩ : ∃ a b, xs = [a, b] := by
        match xs, h2 with
        | [a, b], _ => exact ⟨a, b, rfl⟩
      have e0 : nthS [t0, t1] 0 = t0 := rfl
      have e1 : nthS [t0, t1] 1 = t1 := rfl
      rw [e0] at h3 h6 g2
      rw [e1] at h4 h5 h6 g1
      obtain ⟨ri1, ri2⟩ := riq_back (s := t1) (xs := (riQ t1).1) (by rw [← h4])
      obtain ⟨o1, o2, o3⟩ := opE_back _ _ 0 _ (Nat.le_refl _) (Int.le_refl _) g1
      have ht1 : t1 = ⟨(intsG (entsI es')).toArray⟩ := bl_inj (by rw [bl_mk, o2]; exact ri1)
      have key : writeQ p = t0 ∧ (rightQ p ∨ (p = zeroPat ∧ es' = [])) := by
        unfold headQ at h3 g2
        by_cases hz : t0 = ⟨#[]⟩
        · rw [if_neg (fun h => h hz)] at g2
          have hp : p = zeroPat := g2.symm
          have hnr : ¬rightQ zeroPat := fun h => by have := h.1.1; simp [zeroPat] at this
          refine ⟨?_, .inr ⟨hp, ?_⟩⟩
          · rw [hp, hz]; unfold writeQ; rw [if_neg hnr]
          · have h7 : ¬0 < (riQ t1).1.length := fun h => h6 ⟨h, hz⟩
            rw [← o2, entsI_len] at h7
            cases es' with
            | nil => rfl
            | cons x xs => simp at h7
        · rw [if_pos hz] at g2 h3
          obtain ⟨r1, r2⟩ := hrd t0 h3
          rw [g2] at r1 r2
          exact ⟨r2, .inl r1⟩
      refine ⟨?_, o1, key.2, h1⟩
      refine bl_inj ?_
      rw [hub]
      unfold encQ
      rw [bl_mk, key.1, ← ht1]
end Go.PK

namespace Go.PK
open Go Go.RowKit
section
variable {P : Program} {n : Nat} {l : List (Nat × Value)} {own oF : List (Nat × Obj)} {ro rF : List Snap} {lops : List Oper} {Q : Exit → Act → World → Prop} {K : Act → World → Prop} {i d : Nat} {t e : Pl} {op : Op} {ty : TypeId} {pos : String} {af : Array Edge}
theorem k_run {o : Oper} (ho : lops[i]? = some o) (hgo : Go_ lops n l o) (hd0 : o.dst = some d) (hd : decide (d < n) = true) {v : Value} (hv : OpV P n l oF rF o.op o.type v)
    (h : S (wpJ P lops.toArray oF rF K t) n ((d, v) :: l) own ro) : S (wpJ P lops.toArray oF rF K (.flt i t)) n l own ro := fun a w ha hw => by
  have hd' : d < n := of_decide_eq_true hd
  unfold wpJ
  simp only [List.getElem?_toArray, ho]
  rw [if_pos (hgo a ha)]
  refine ⟨v, fun w' hw' => ?_, by rw [hd0]; exact h _ w (ha.put v hd') hw⟩
  unfold fltAt
  rw [hv a w' _ ha hw' rfl rfl]
  exact ⟨rfl, rfl⟩
theorem k_val (ho : lops[i]? = some ⟨some d, op, ty, pos, af, none⟩) (hd : decide (d < n) = true) {v : Value} (hv : OpV P n l oF rF op ty v)
    (h : S (wpJ P lops.toArray oF rF K t) n ((d, v) :: l) own ro) : S (wpJ P lops.toArray oF rF K (.flt i t)) n l own ro := k_run ho (go_none rfl) rfl hd hv h
theorem k_gr (h : WX P lops.toArray (fun _ _ _ => False) (fun a w => Mem w oF rF ∧ wpJ P lops.toArray oF rF K t a w) [(none, i)] n l own ro) (he : S (wpJ P lops.toArray oF rF K e) n l own ro) : S (wpJ P lops.toArray oF rF K (.gr i t e)) n l own ro := fun a w ha hw => by
  have h := h a w ha hw
  unfold wpJ
  refine ⟨?_, he a w ha hw⟩
  simp only [wpX] at h
  split <;> rename_i ho <;> simp only [ho] at h
  split <;> rename_i hw'
  · intro w2 h2
    have h := h w2 h2
    rw [if_pos hw'] at h
    exact Oper.wp_mono (fun a' w' hk => hk w' (Later.refl _)) h
  · have h := h w (Later.refl _)
    rw [if_neg hw'] at h
    exact (h w (Later.refl _)).2
theorem k_end (hsub : oF.Sublist own) (hro : ∀ s ∈ rF, s ∈ ro) (h : S (wpJ P lops.toArray oF rF K t) n l own ro) : S (fun a w => Mem w oF rF ∧ wpJ P lops.toArray oF rF K t a w) n l own ro := fun a w ha hw => ⟨hw.less hsub hro, h a w ha hw⟩
theorem k_nil : S (wpJ P lops.toArray oF rF K .nil) n l own ro := fun _ _ _ _ => trivial
theorem k_done {m : Nat} (h : WX P lops.toArray Q (fun a w => Q .normal a w) (tailFrom m lops.length) n l own ro) :
    S (wpJ P lops.toArray oF rF (fun a' w' => ∀ w'', Later w' w'' → wpList P lops.toArray Q (lops.drop m) a' w'') .done) n l own ro :=
  fun a w ha hw w2 h2 => wpList_of_X _ m a w2 rfl (wpX_later h2 (h a w ha hw))
end
end Go.PK

namespace Go.PK
open Go Go.RowKit
structure SerRdD (D : Nat → Prop) (w : World) (b : Nat) (p : Pat) (es : List Ent) (v1 v2 v3 : Value) : Prop where
  blk : D b
  cells : ∀ j (hj : j < [Value.int .i64 p.first, Value.int .i64 p.days, v1, v2, v3].length), w.cell? ⟨b, j, none⟩ = some [Value.int .i64 p.first, Value.int .i64 p.days, v1, v2, v3][j]
  lvs : sliceRd tyI D w v1 p.lv
  sts : sliceRd tyI D w v2 p.st
  fst : in64 p.first
  dys : in64 p.days
  ent : sliceRd tyEnt D w v3 es
theorem SerRdD.keep {D D' : Nat → Prop} {w w' : World} {b : Nat} {p : Pat} {es : List Ent} {v1 v2 v3 : Value} (h : SerRdD D w b p es v1 v2 v3) (hk : Kept D D' w w') : SerRdD D' w' b p es v1 v2 v3 := by
  have hb : b < w.heap.size := cell_lt (p := ⟨b, 0, none⟩) (h.cells 0 (by show 0 < 5; decide))
  obtain ⟨h1, h2⟩ := hk b h.blk hb
  exact ⟨h1, fun j hj => (cell_keep h2).trans (h.cells j hj), h.lvs.keep hk, h.sts.keep hk, h.fst, h.dys, h.ent.keep hk⟩
theorem SerRdD.rd {D : Nat → Prop} {w : World} {b : Nat} {p : Pat} {es : List Ent} {v1 v2 v3 : Value} (h : SerRdD D w b p es v1 v2 v3) : SerRd w b p es v1 v2 v3 := by
  have h' := h.keep (D' := fun _ => True) (w' := w) (fun k hk hlt => ⟨trivial, rfl⟩)
  exact ⟨h'.cells, h'.lvs, h'.sts, h'.fst, h'.dys, h'.ent⟩
theorem SerRdD.new {wa wb w1 : World} {own own1 : List (Nat × Obj)} {ro ro1 : List Snap} {b : Nat} {p : Pat} {es : List Ent} {v1 v2 v3 : Value} (h : SerRdD (fun b => wa.heap.size ≤ b) wb b p es v1 v2 v3) (hw1 : Mem w1 own1 ro1) (hs : (wb, notOwn own) ∈ ro1) (hm : Mem wa own ro) : SerRd w1 b p es v1 v2 v3 :=
  (h.keep (D' := fun _ => True) (w' := w1) fun k hk hlt => ⟨trivial, hw1.ro_at _ hs k (fun p hp he => by have := hm.lt hp; omega) hlt⟩).rd
def OpOK (D : Nat → Prop) (w : World) (v : Value) (o : Option (Pat × List Ent)) : Prop := match o with
  | none => v = .pointer none
  | some x => ∃ b v1 v2 v3, v = .pointer (some ⟨b, 0, none⟩) ∧ SerRdD D w b x.1 x.2 v1 v2 v3
end Go.PK

namespace Go.PK
open Go Go.ChangeShapes Go.WideShapes Go.ChangeAt Go.RowKit
structure Meas (H : Type) where
  f : DataW H → Nat
  all : List (DataW H) → Nat
  str : ∀ bs, f (.lit (.string bs)) = bs.length + 1
  slice : ∀ es sp, f (.slice es sp) = all es + all sp + 1
  agg : ∀ ps, f (.agg ps) = all ps + 1
  cons : ∀ d r, all (d :: r) = f d + all r
  one : ∀ d, 1 ≤ f d
theorem Meas.mem_le {H : Type} (M : Meas H) : ∀ {l : List (DataW H)} {d : DataW H}, d ∈ l → M.f d ≤ M.all l
  | x :: r, d, h => by
    rw [M.cons]
    rcases List.mem_cons.1 h with rfl | h
    · omega
    · have := M.mem_le h; omega
theorem Meas.len_le {H : Type} (M : Meas H) : ∀ (l : List (DataW H)), l.length ≤ M.all l
  | [] => Nat.zero_le _
  | x :: r => by
    rw [M.cons, List.length_cons]
    have h1 := M.len_le r
    have h2 := M.one x
    omega
structure RdrN {α : Type} (P : Program) (t : TypeId) (T : Ty α) (N : Nat) : Prop where
  size : P.cellsOf t = T.size
  pos : 0 < T.size
  rd : ∀ {H : Type} {enc : TypeId × Value → H} {w : World} {base : Nat} {sp : Nat → Bool} {held : Bool} {fuel : Nat} {cs : List Value} {x : DataW H × List MemPlace} (M : Meas H), M.f x.1 ≤ N → DataW.trod enc P w base sp held fuel t cs = some x → ∃ y, T.rd (fun _ => True) w cs y
theorem Rdr.N {α : Type} {P : Program} {t : TypeId} {T : Ty α} {N : Nat} (R : Rdr P t T) : RdrN P t T N := ⟨R.size, R.pos, fun _ _ h => R.rd h⟩
def tyStrN (N : Nat) : Ty ByteArray where
  size := 1
  rd := fun _ _ cs x => cs = [.string x] ∧ x.size ≤ N
  len := fun h => by rw [h.1]; rfl
  keep := fun h _ => h
section
variable {P : Program} {H : Type} {enc : TypeId × Value → H}
theorem rdr_sN {t : TypeId} {N : Nat} (ht : P.underlying t = some .string) (hc : P.cellsOf t = 1) : RdrN P t (tyStrN N) N :=
  ⟨hc, Nat.one_pos, fun M hM h => by
    obtain ⟨s, rfl, rfl, hw⟩ := DataW.trod_string ht h
    simp only [M.str] at hM
    have e : s.data.toList.length = s.size := by rw [Array.length_toList]; rfl
    exact ⟨s, rfl, by omega⟩⟩
theorem trod_rdN {α : Type} {T : Ty α} {t e : TypeId} {N fuel base : Nat} {sp : Nat → Bool} {held : Bool} {w : World} {cs : List Value} {x : DataW H × List MemPlace} (ht : P.underlying t = some (.slice e)) (R : RdrN P e T N) (M : Meas H) (hN : M.f x.1 ≤ N) (h : DataW.trod enc P w base sp held fuel t cs = some x) :
    ∃ v xs, cs = [v] ∧ sliceRd T (fun _ => True) w v xs ∧ xs.length ≤ N ∧ ∃ a l c, v = .slice a l c := by
  rcases Go.Deep.open_slice ht h with ⟨rfl, _⟩ | ⟨a, len, cap, m, n, D, Pl, rfl, hb, hl, hm, hmm, hxe, hx⟩
  · exact ⟨_, [], rfl, ⟨none, 0, rfl, Nat.le_refl _, Nat.zero_le _, fun h => by simp at h⟩, Nat.zero_le _, _, _, _, rfl⟩
  · have hlm : len ≤ m := by rw [hmm]; split <;> omega
    have hx' : ∀ i, i < len → ∃ p : List Value × α, w.cells? base (a.add (i * P.cellsOf e)) (P.cellsOf e) = some p.1 ∧ T.rd (fun _ => True) w p.1 p.2 := fun i hi => by
      obtain ⟨cs', h1, h2⟩ := hx i (by omega)
      have hfi : M.f (D i) ≤ N := by
        subst hxe
        have h3 := M.mem_le (List.mem_map.2 ⟨i, List.mem_range.2 hi, rfl⟩ : D i ∈ (List.range len).map D)
        simp only [M.slice] at hN
        omega
      obtain ⟨y, hy⟩ := R.rd M hfi h2
      exact ⟨⟨cs', y⟩, h1, hy⟩
    rcases Nat.eq_zero_or_pos len with h0 | h0
    · subst h0
      exact ⟨_, [], rfl, ⟨some a, cap, rfl, Nat.zero_le _, Nat.zero_le _, fun h => by simp at h⟩, Nat.zero_le _, _, _, _, rfl⟩
    · have hspot : a.spot = none := by
        obtain ⟨p, h1, h2⟩ := hx' 0 h0
        have hpl : 0 < P.cellsOf e := by rw [R.size]; exact R.pos
        unfold World.cells? at h1
        split at h1
        · have := mapM_some_get h1 0 0 (by rw [List.getElem?_range hpl])
          have hlen : p.1.length = P.cellsOf e := by simpa using mapM_some_length h1
          rw [List.getElem?_eq_getElem (by omega)] at this
          have e0 : (a.add (0 * P.cellsOf e)).add 0 = a := by simp [Addr.add]
          rw [e0] at this
          unfold World.cell? at this
          split at this
          · split at this
            · cases this
            · rename_i hns; simpa using hns
          · cases this
        · cases h1
      obtain ⟨b, off, sp'⟩ := a
      simp only at hspot
      subst hspot
      let F : (i : Nat) → (i < len) → List Value × α := fun i hi => (hx' i hi).choose
      have hF : ∀ i (hi : i < len), w.cells? base ((⟨b, off, none⟩ : Addr).add (i * P.cellsOf e)) (P.cellsOf e) = some (F i hi).1 ∧ T.rd (fun _ => True) w (F i hi).1 (F i hi).2 := fun i hi => (hx' i hi).choose_spec
      refine ⟨_, List.ofFn (fun i : Fin len => (F i.1 i.2).2), rfl, ⟨_, cap, by rw [List.length_ofFn], by rw [List.length_ofFn]; exact hl, by rw [List.length_ofFn]; unfold maxLen at hm; omega, fun _ => ⟨b, off, rfl, trivial, ?_, fun j hj => ?_⟩⟩, ?_, _, _, _, rfl⟩
      · obtain ⟨h1, h2⟩ := hF 0 h0
        have hpl : 0 < P.cellsOf e := by rw [R.size]; exact R.pos
        unfold World.cells? at h1
        split at h1
        · have := mapM_some_get h1 0 0 (by rw [List.getElem?_range hpl])
          have hlen : (F 0 h0).1.length = P.cellsOf e := by simpa using mapM_some_length h1
          rw [List.getElem?_eq_getElem (by omega)] at this
          have := cell_lt this
          simpa [Addr.add] using this
        · cases h1
      · have hj' : j < len := by simpa using hj
        obtain ⟨h1, h2⟩ := hF j hj'
        refine ⟨(F j hj').1, fun i hi => ?_, by simpa using h2⟩
        unfold World.cells? at h1
        split at h1
        · have hlen : (F j hj').1.length = P.cellsOf e := by simpa using mapM_some_length h1
          have := mapM_some_get h1 i i (by rw [List.getElem?_range (by omega)])
          rw [List.getElem?_eq_getElem hi, mk_add, mk_add, R.size] at this
          exact this
        · cases h1
      · rw [List.length_ofFn]
        subst hxe
        have h3 := M.len_le ((List.range len).map D)
        simp only [M.slice] at hN
        rw [List.length_map, List.length_range] at h3
        omega
end
section
variable {H : Type} {enc : TypeId × Value → H} {P : Program} {W : World} {base b0 : Nat} {sp : Nat → Bool} {held : Bool} {r : Reach} {t e : TypeId} {v : Value} {d : DataW H} {ps : List MemPlace}
theorem top_sliceN {α : Type} {T : Ty α} {N : Nat} (ht : P.underlying t = some (.slice e)) (R : RdrN P e T N) (M : Meas H) (hM : M.f d ≤ N) (hval : Value.okWide P W r b0 t v) (h : DataW.Trod enc P W base sp held t v d ps) : ∃ xs, sliceRd T (fun _ => True) W v xs ∧ xs.length ≤ N := by
  obtain ⟨n, hn⟩ := h
  obtain ⟨v', xs, hc, hrd, hl, a, l, c, rfl⟩ := trod_rdN ht R M hM hn
  have : v = .slice a l c := by
    cases v <;> simp_all [Value.okWide, Cell.okWide, Cell.ok, Value.cells]
  subst this
  exact ⟨xs, hrd, hl⟩
theorem sliceRd.each {α : Type} {T : Ty α} {D : Nat → Prop} {v : Value} {xs : List α} {w : World} (h : sliceRd T D w v xs) {Q : α → Prop} (hT : ∀ cs x, T.rd D w cs x → Q x) : ∀ x ∈ xs, Q x := by
  intro x hx
  obtain ⟨A, c, h1, h2, h3, h4⟩ := h
  obtain ⟨b, off, e, hD, hb, hc⟩ := h4 (List.length_pos_of_mem hx)
  obtain ⟨j, hj, rfl⟩ := List.getElem_of_mem hx
  obtain ⟨cs, k1, k2⟩ := hc j hj
  exact hT _ _ k2
end
end Go.PK

namespace Go.PK
open Go Go.RowKit
end Go.PK

namespace Go.PK
open Go Go.ChangeShapes Go.WideShapes Go.ChangeAt Go.RowKit
inductive FldsN (P : Program) (N : Nat) : Nat → List Field → (β : Type) → Ty β → Prop where
  | nil (off : Nat) : FldsN P N off [] Unit tyNil
  | cons {α β : Type} {T : Ty α} {U : Ty β} {off : Nat} {f : Field} {fs : List Field} (ho : f.offset = off) (R : RdrN P f.type T N) (h : FldsN P N (off + T.size) fs β U) : FldsN P N off (f :: fs) (α × β) (tyCons T U)
theorem fldsN_of {P : Program} {N : Nat} {H : Type} {enc : TypeId × Value → H} {w : World} {base m : Nat} {sp : Nat → Bool} {held : Bool} {cs : List Value} {off : Nat} {fs : List Field} {β : Type} {U : Ty β} (M : Meas H) (F : FldsN P N off fs β U) :
    (∀ f ∈ fs, ∃ x, M.f x.1 ≤ N ∧ DataW.trod enc P w base sp held m f.type ((cs.drop f.offset).take (P.cellsOf f.type)) = some x) → cs.length = off + U.size → ∃ y, U.rd (fun _ => True) w (cs.drop off) y := by
  induction F with
  | nil off => exact fun _ hl => ⟨(), List.drop_eq_nil_of_le (by rw [hl]; exact Nat.le_refl _)⟩
  | @cons α β T U off f fs ho R F ih =>
    intro h hl
    have hl : cs.length = off + (T.size + U.size) := hl
    obtain ⟨y, hy⟩ := ih (fun g hg => h g (List.mem_cons_of_mem _ hg)) (by omega)
    obtain ⟨x, hM, hx⟩ := h f (List.mem_cons_self ..)
    rw [ho, R.size] at hx
    obtain ⟨z, hz⟩ := R.rd M hM hx
    refine ⟨(z, y), _, _, (List.take_append_drop T.size _).symm, hz, ?_⟩
    rw [List.drop_drop]
    exact hy
theorem rdrN_struct {P : Program} {N : Nat} {t : TypeId} {fs : Array Field} {β : Type} {U : Ty β} (ht : P.underlying t = some (.struct fs)) (hc : P.cellsOf t = U.size) (hp : 0 < U.size) (F : FldsN P N 0 fs.toList β U) : RdrN P t U N :=
  ⟨hc, hp, @fun H enc w base sp held fuel cs x M hM h => by
    obtain ⟨xs, m, hx0, hxl, hl, hx, hh⟩ := DataW.trod_struct ht h
    have := fldsN_of (enc := enc) (base := base) (sp := sp) (held := held) (m := m) (cs := cs) (w := w) M F (fun f hf => by
      obtain ⟨i, hi, rfl⟩ := List.mem_iff_getElem.1 hf
      have h1 := hh i fs.toList[i] (by simp)
      have hi' : i < fs.size := by simpa using hi
      rw [List.getElem?_eq_getElem (by omega)] at h1
      refine ⟨_, ?_, h1⟩
      subst hxl
      have h3 := M.mem_le (List.mem_map.2 ⟨xs[i]'(by omega), List.getElem_mem _, rfl⟩ : (xs[i]'(by omega)).1 ∈ xs.map (fun x => x.1))
      have hM : M.f (.agg (xs.map fun x => x.1)) ≤ N := hM
      rw [M.agg] at hM
      exact Nat.le_trans h3 (by omega)) (by rw [hl, hc]; omega)
    simpa using this⟩
end Go.PK

namespace Go.PK
open Go Go.RowKit
theorem Qz : (∀ (p : Prop) [Decidable p], (decide p = true) = p) ∧ (∀ (p : Prop) [Decidable p], (decide p = false) = ¬p) ∧ (∀ a b : Bool, ((a && b) = true) = (a = true ∧ b = true)) ∧ (∀ a b : Bool, ((a || b) = true) = (a = true ∨ b = true)) ∧ (∀ a b : Bool, ((a && b) = false) = (a = false ∨ b = false)) ∧ (∀ a b : Bool, ((a || b) = false) = (a = false ∧ b = false)) ∧ (∀ b : Bool, ((!b) = true) = (b = false)) ∧ (∀ b : Bool, ((!b) = false) = (b = true)) ∧ (∀ (p : Prop) [Decidable p], (¬¬p) = p) :=
  ⟨fun p _ => decide_eq_true_eq, fun p _ => propext decide_eq_false_iff_not, Bool.and_eq_true, Bool.or_eq_true, fun a b => propext Bool.and_eq_false_iff, fun a b => propext Bool.or_eq_false_iff, Bool.not_eq_true', Bool.not_eq_false', fun p _ => propext Decidable.not_not⟩
theorem Qy : (∀ (a : Bool × Bool) (as bs : List (Bool × Bool)), (a :: as) ++ bs = a :: (as ++ bs)) ∧ (∀ as : List (Bool × Bool), [] ++ as = as) ∧ (∀ v, gvl [] v = v) ∧ (∀ gs v, gvl ((true, true) :: gs) v = gvl gs v) ∧ (∀ gs v, gvl ((false, false) :: gs) v = gvl gs v) := ⟨fun _ _ _ => rfl, fun _ => rfl, gvl_nil, gvl_t, gvl_f⟩
theorem Zo {p : Prop} (h : p := by first | omega | (dsimp only; omega)) : p := h
theorem Zh {p : Prop} (h : p := by repeat (first | exact List.Mem.head _ | apply List.Mem.tail)) : p := h
theorem Zi {p : Prop} (h : p := by repeat (first | exact List.Mem.head _ | apply List.Mem.tail | apply List.mem_append_right)) : p := h
theorem Zu {p : Prop} (h : p := by repeat (first | exact Sub.nil | refine Sub.cons rfl ?_)) : p := h
theorem Zk {p : Prop} (h : p := by kernel_rfl) : p := h
theorem Zx {p : Prop} (h : p := by simp only [maxLen]; omega) : p := h
section
variable {P : Program} {n : Nat} {l : List (Nat × Value)} {own : List (Nat × Obj)} {ro : List Snap} {lops : List Oper} {Q : Exit → Act → World → Prop} {K : Act → World → Prop}
  {rest : List (Option Bool × Nat)} {k : Option Bool} {i d j dj : Nat} {op : Op} {ty t : TypeId} {pos : String} {af : Array Edge} {x : Operand} {v : Value} {b c want : Bool}
theorem Xm (h : WX P lops.toArray Q K rest n ((d, v) :: l) own ro) (ho : lops[i]? = some ⟨some d, .move x, ty, pos, af, none⟩ := by exact rfl) (hk : k.getD true = true := by exact rfl) (hd : decide (d < n) = true := by exact rfl) (hx : ev l x = some v := by exact rfl) : WX P lops.toArray Q K ((k, i) :: rest) n l own ro := x_val ho hk hd (v_move hx) h
theorem Xa (h : WX P lops.toArray Q K rest n ((d, v) :: l) own ro) (ho : lops[i]? = some ⟨some d, .assign x, ty, pos, af, none⟩ := by exact rfl) (hk : k.getD true = true := by exact rfl) (hd : decide (d < n) = true := by exact rfl) (hx : ev l x = some v := by exact rfl) : WX P lops.toArray Q K ((k, i) :: rest) n l own ro := x_val ho hk hd (v_assign hx) h
theorem Xv (ho : lops[i]? = some ⟨some d, op, ty, pos, af, none⟩) (hv : OpV P n l own ro op ty v) (h : WX P lops.toArray Q K rest n ((d, v) :: l) own ro) (hk : k.getD true = true := by exact rfl) (hd : decide (d < n) = true := by exact rfl) : WX P lops.toArray Q K ((k, i) :: rest) n l own ro := x_val ho hk hd hv h
theorem Xb (ho : lops[i]? = some ⟨some d, op, ty, pos, af, none⟩) (hv : OpV P n l own ro op ty (.bool b)) (h : ∀ c, c = b → WX P lops.toArray Q K rest n ((d, .bool c) :: l) own ro) (hk : k.getD true = true := by exact rfl) (hd : decide (d < n) = true := by exact rfl) : WX P lops.toArray Q K ((k, i) :: rest) n l own ro := x_bool ho hk hd hv h
theorem Xi (ho : lops[i]? = some ⟨some d, op, ty, pos, af, some (j, want)⟩) (hj : (lops[j]?).bind (·.dst) = some dj) (hb : l.lookup dj = some (.bool b)) (hv : b = want → OpV P n l own ro op ty v) (h : WX P lops.toArray Q K rest n ((d, gvl ([] ++ [(b, want)]) v) :: l) own ro) (hk : k.getD true = true := by exact rfl) (hd : decide (d < n) = true := by exact rfl) : WX P lops.toArray Q K ((k, i) :: rest) n l own ro := x_if [] ho hj hb hk hd (fun hg => hv hg.1) h
theorem Xg (h : WX P lops.toArray Q K rest n ((d, gvl ([] ++ [(b, want)]) v) :: l) own ro) (ho : lops[i]? = some ⟨some d, .move x, ty, pos, af, some (j, want)⟩ := by exact rfl) (hj : (lops[j]?).bind (·.dst) = some dj := by exact rfl) (hb : l.lookup dj = some (.bool b) := by exact rfl) (hk : k.getD true = true := by exact rfl) (hd : decide (d < n) = true := by exact rfl) (hx : b = want → ev l x = some v := by intro hg0; (try subst hg0); (try simp only [Qy]); exact rfl) : WX P lops.toArray Q K ((k, i) :: rest) n l own ro := x_if [] ho hj hb hk hd (fun hg => v_move (hx hg.1)) h
theorem Xj (ho : lops[i]? = some ⟨some d, op, ty, pos, af, some (j, want)⟩) (hj : (lops[j]?).bind (·.dst) = some dj) (hb : l.lookup dj = some (.bool b)) (hv : b = want → OpV P n l own ro op ty (.bool c)) (h : ∀ c', c' = c → WX P lops.toArray Q K rest n ((d, gvl ([] ++ [(b, want)]) (.bool c')) :: l) own ro) (hk : k.getD true = true := by exact rfl) (hd : decide (d < n) = true := by exact rfl) : WX P lops.toArray Q K ((k, i) :: rest) n l own ro := x_ifb [] ho hj hb hk hd (fun hg => hv hg.1) h
theorem Vl {td : TypeDesc} {p o : Nat} (ht : P.underlying t = some td) (hx : ev l x = some (.pointer (some ⟨p, o, none⟩))) (hd : aggT td = false := by exact rfl) (hc : At own ro p o v := by first | exact at_ownL (.head _) rfl | exact at_ownL (.tail _ (.head _)) rfl | exact at_ownL (.tail _ (.tail _ (.head _))) rfl | (apply at_ownL; ((repeat (first | exact List.Mem.head _ | apply List.Mem.tail | apply List.mem_append_right))); rfl) | (refine at_ro (by first | exact .head _ | exact .tail _ (.head _) | exact .tail _ (.tail _ (.head _)) | simp) ?_ (by assumption); trivial)) : OpV P n l own ro (.load t x) ty v := v_load ht hd hx hc
theorem Ze (h : S K n l own ro) : WX P lops.toArray Q K [] n l own ro := x_end h
theorem Zt {y : Code} (h : W P y Q n l own ro) : S (Exit.then (y.wp P Q) Q .normal) n l own ro := h
theorem Zs {x y : Code} (h : W P x (Exit.then (y.wp P Q) Q) n l own ro) : W P (.seq x y) Q n l own ro := w_seq h
theorem Zr {id : Nat} (h : WX P lops.toArray Q (fun a w => Q .normal a w) (tailFrom 0 lops.length) n l own ro) : W P (.region id lops.toArray false) Q n l own ro := rg_text h
end
end Go.PK
