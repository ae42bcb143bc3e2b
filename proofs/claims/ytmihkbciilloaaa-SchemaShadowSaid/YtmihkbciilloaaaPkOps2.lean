/- Of the proofs of Ytmihkbciilloaaa; see NOTES.md. -/
import Derived.Test.YtmihkbciilloaaaPkOps
namespace Go.PK
open Go Go.RowKit
set_option linter.unusedVariables false

section
variable {P : Program} {n : Nat} {l : List (Nat × Value)} {own : List (Nat × Obj)} {ro : List Snap} {ty : TypeId} {x y : Operand} {t t' : TypeId} {k k' : IntKind} {a b : Int}

/-! ## Integers -/
theorem v_add (hx : ev l x = some (.int k a)) (hy : ev l y = some (.int k b)) : OpV P n l own ro (.binOp .add t x y t') ty (.int k (k.wrap (a + b))) := by
  intro A w o ha _ ho _
  simp [execOp, ho, ha.eval hx, ha.eval hy, eqGuard, binOp, Op.intArith]
theorem v_sub (hx : ev l x = some (.int k a)) (hy : ev l y = some (.int k b)) : OpV P n l own ro (.binOp .sub t x y t') ty (.int k (k.wrap (a - b))) := by
  intro A w o ha _ ho _
  simp [execOp, ho, ha.eval hx, ha.eval hy, eqGuard, binOp, Op.intArith]
theorem v_mul (hx : ev l x = some (.int k a)) (hy : ev l y = some (.int k b)) : OpV P n l own ro (.binOp .mul t x y t') ty (.int k (k.wrap (a * b))) := by
  intro A w o ha _ ho _
  simp [execOp, ho, ha.eval hx, ha.eval hy, eqGuard, binOp, Op.intArith]
theorem v_quo (hx : ev l x = some (.int k a)) (hy : ev l y = some (.int k b)) (h0 : b ≠ 0) : OpV P n l own ro (.binOp .quo t x y t') ty (.int k (k.wrap (a.tdiv b))) := by
  intro A w o ha _ ho _
  simp [execOp, ho, ha.eval hx, ha.eval hy, eqGuard, binOp, Op.intDiv, h0]
theorem v_rem (hx : ev l x = some (.int k a)) (hy : ev l y = some (.int k b)) (h0 : b ≠ 0) : OpV P n l own ro (.binOp .rem t x y t') ty (.int k (a.tmod b)) := by
  intro A w o ha _ ho _
  simp [execOp, ho, ha.eval hx, ha.eval hy, eqGuard, binOp, Op.intDiv, h0]
theorem wrap_in {n : Int} (h : -9223372036854775808 ≤ n ∧ n ≤ 9223372036854775807) : IntKind.i64.wrap n = n := by
  rw [IntKind.wrap_i64]; omega
/-- .. where the result fits. -/
theorem v_addi (hx : ev l x = some (.int .i64 a)) (hy : ev l y = some (.int .i64 b)) {c : Int} (hc : a + b = c) (h : -9223372036854775808 ≤ c ∧ c ≤ 9223372036854775807) : OpV P n l own ro (.binOp .add t x y t') ty (.int .i64 c) := by
  have := v_add (P := P) (n := n) (own := own) (ro := ro) (t := t) (t' := t') (ty := ty) hx hy
  rwa [hc, wrap_in h] at this
theorem v_subi (hx : ev l x = some (.int .i64 a)) (hy : ev l y = some (.int .i64 b)) {c : Int} (hc : a - b = c) (h : -9223372036854775808 ≤ c ∧ c ≤ 9223372036854775807) : OpV P n l own ro (.binOp .sub t x y t') ty (.int .i64 c) := by
  have := v_sub (P := P) (n := n) (own := own) (ro := ro) (t := t) (t' := t') (ty := ty) hx hy
  rwa [hc, wrap_in h] at this
theorem v_muli (hx : ev l x = some (.int .i64 a)) (hy : ev l y = some (.int .i64 b)) {c : Int} (hc : a * b = c) (h : -9223372036854775808 ≤ c ∧ c ≤ 9223372036854775807) : OpV P n l own ro (.binOp .mul t x y t') ty (.int .i64 c) := by
  have := v_mul (P := P) (n := n) (own := own) (ro := ro) (t := t) (t' := t') (ty := ty) hx hy
  rwa [hc, wrap_in h] at this
theorem v_quoi (hx : ev l x = some (.int .i64 a)) (hy : ev l y = some (.int .i64 b)) (h0 : b ≠ 0) {c : Int} (hc : a.tdiv b = c) (h : -9223372036854775808 ≤ c ∧ c ≤ 9223372036854775807) : OpV P n l own ro (.binOp .quo t x y t') ty (.int .i64 c) := by
  have := v_quo (P := P) (n := n) (own := own) (ro := ro) (t := t) (t' := t') (ty := ty) hx hy h0
  rwa [hc, wrap_in h] at this

theorem v_lss (hx : ev l x = some (.int k a)) (hy : ev l y = some (.int k b)) : OpV P n l own ro (.binOp .lss t x y t') ty (.bool (decide (a < b))) := by
  intro A w o ha _ ho _
  simp [execOp, ho, ha.eval hx, ha.eval hy, eqGuard, binOp, Op.intCmp]
theorem v_leq (hx : ev l x = some (.int k a)) (hy : ev l y = some (.int k b)) : OpV P n l own ro (.binOp .leq t x y t') ty (.bool (decide (a ≤ b))) := by
  intro A w o ha _ ho _
  simp [execOp, ho, ha.eval hx, ha.eval hy, eqGuard, binOp, Op.intCmp]
theorem v_gtr (hx : ev l x = some (.int k a)) (hy : ev l y = some (.int k b)) : OpV P n l own ro (.binOp .gtr t x y t') ty (.bool (decide (b < a))) := by
  intro A w o ha _ ho _
  simp [execOp, ho, ha.eval hx, ha.eval hy, eqGuard, binOp, Op.intCmp]
theorem v_geq (hx : ev l x = some (.int k a)) (hy : ev l y = some (.int k b)) : OpV P n l own ro (.binOp .geq t x y t') ty (.bool (decide (b ≤ a))) := by
  intro A w o ha _ ho _
  simp [execOp, ho, ha.eval hx, ha.eval hy, eqGuard, binOp, Op.intCmp]
theorem v_eql (hx : ev l x = some (.int k a)) (hy : ev l y = some (.int k b)) : OpV P n l own ro (.binOp .eql t x y t') ty (.bool (decide (a = b))) := by
  intro A w o ha _ ho _
  simp [execOp, ho, ha.eval hx, ha.eval hy, eqGuard, binOp, Op.intCmp]
  rw [Bool.eq_iff_iff]; simp
theorem v_neq (hx : ev l x = some (.int k a)) (hy : ev l y = some (.int k b)) : OpV P n l own ro (.binOp .neq t x y t') ty (.bool (decide (a ≠ b))) := by
  intro A w o ha _ ho _
  simp [execOp, ho, ha.eval hx, ha.eval hy, eqGuard, binOp, Op.intCmp]
  rw [Bool.eq_iff_iff]; simp
theorem v_conv {td : TypeDesc} (hs : P.underlying t = some td) (hd : P.underlying t' = some (.int k')) (hx : ev l x = some (.int k a)) : OpV P n l own ro (.convert t t' x) ty (.int k' (k'.wrap a)) := by
  intro A w o ha _ ho _
  simp [execOp, ho, ha.eval hx, convert, run_underlying hs, run_underlying hd, Conv.intToInt]

/-! ## Strings -/
variable {s u : ByteArray}
theorem toList_eq {s u : ByteArray} : (s.toList == u.toList) = decide (s = u) := by
  rw [Bool.eq_iff_iff]
  simp only [beq_iff_eq, decide_eq_true_eq]
  constructor
  · intro h
    apply ByteArray.ext
    rw [ByteArray.toList_eq, ByteArray.toList_eq] at h
    exact Array.toList_inj.1 h
  · rintro rfl; rfl
theorem v_seql (hx : ev l x = some (.string s)) (hy : ev l y = some (.string u)) : OpV P n l own ro (.binOp .eql t x y t') ty (.bool (decide (s = u))) := by
  intro A w o ha _ ho _
  simp [execOp, ho, ha.eval hx, ha.eval hy, eqGuard, binOp, Op.stringOp, toList_eq]
theorem v_sneq (hx : ev l x = some (.string s)) (hy : ev l y = some (.string u)) : OpV P n l own ro (.binOp .neq t x y t') ty (.bool (decide (s ≠ u))) := by
  intro A w o ha _ ho _
  simp [execOp, ho, ha.eval hx, ha.eval hy, eqGuard, binOp, Op.stringOp, toList_eq]
theorem v_sadd (hx : ev l x = some (.string s)) (hy : ev l y = some (.string u)) (h : s.size + u.size ≤ 9223372036854775807) : OpV P n l own ro (.binOp .add t x y t') ty (.string (s ++ u)) := by
  intro A w o ha _ ho _
  have := @run_string_add_sum P w s u h
  simp [execOp, ho, ha.eval hx, ha.eval hy, eqGuard, binOp, this]
def byteAt (s : ByteArray) (j : Nat) : UInt8 := s.data.toList.getD j 0
theorem byteAt_eq {s : ByteArray} {j : Nat} (h : j < s.size) : byteAt s j = s[j] := by
  have h2 : j < s.data.toList.length := by simpa using h
  unfold byteAt
  rw [List.getD_eq_getElem?_getD, List.getElem?_eq_getElem h2]
  rfl
theorem v_index {j : Nat} (ht : P.underlying t = some .string) (hx : ev l x = some (.string s)) (hy : ev l y = some (.int k (j : Nat))) (hj : j < s.size) : OpV P n l own ro (.index t x y) ty (.int .u8 (byteAt s j).toNat) := by
  intro A w o ha _ ho _
  have h2 : s[j]? = some s[j] := getElem?_pos s j hj
  rw [byteAt_eq hj]
  simp [execOp, ho, ha.eval hx, ha.eval hy, Instr.index, run_underlying ht, asIntOf, h2]
theorem run_equalIn_bool {p q : Bool} {w : World} (ht : P.underlying t = some .bool) (d : Nat) : (Op.equalIn (d + 1) t (.bool p) (.bool q)).run P w = .ok (p == q) w := by simp [Op.equalIn, run_underlying ht]
theorem run_equal_bool {p q : Bool} {w : World} (ht : P.underlying t = some .bool) : (Op.equal t (.bool p) (.bool q)).run P w = .ok (p == q) w := run_equalIn_bool ht 9999
theorem v_beql {p q : Bool} (hx : ev l x = some (.bool p)) (hy : ev l y = some (.bool q)) (ht : P.underlying t = some .bool) : OpV P n l own ro (.binOp .eql t x y t') ty (.bool (p == q)) := by
  intro A w o ha _ ho _
  simp [execOp, ho, ha.eval hx, ha.eval hy, eqGuard, binOp, run_equal_bool ht]
theorem v_bneq {p q : Bool} (hx : ev l x = some (.bool p)) (hy : ev l y = some (.bool q)) (ht : P.underlying t = some .bool) : OpV P n l own ro (.binOp .neq t x y t') ty (.bool (!(p == q))) := by
  intro A w o ha _ ho _
  simp [execOp, ho, ha.eval hx, ha.eval hy, eqGuard, binOp, run_equal_bool ht]
/-- 's[i:j]' -/
theorem v_cut {i j : Nat} {z : Operand} (ht : P.underlying t = some .string) (hx : ev l x = some (.string s)) (hy : ev l y = some (.int k (i : Nat))) (hz : ev l z = some (.int k' (j : Nat))) (hi : i ≤ j) (hj : j ≤ s.size) :
    OpV P n l own ro (.slice t x (some y) (some z) none) ty (.string (s.extract i j)) := by
  intro A w o ha _ ho _
  have h := @run_slice_string_if P w t s k k' i j ht
  rw [if_pos (by omega), if_pos (by omega)] at h
  simp only [Int.toNat_natCast] at h
  have h2 : (Instr.sliceAt t (.string s) (some (.int k (i : Nat))) (some (.int k' (j : Nat))) none).run P w = .ok (.string (s.extract i j)) w := by
    simp only [Instr.sliceAt, Sem.run_bind, run_underlying ht, Result.andThen_ok, h]
  simp [execOp, ho, ha.eval hx, ha.eval hy, ha.eval hz, h2]
/-- 's[i:]' -/
theorem v_cut_from {i : Nat} (ht : P.underlying t = some .string) (hx : ev l x = some (.string s)) (hy : ev l y = some (.int k (i : Nat))) (hi : i ≤ s.size) :
    OpV P n l own ro (.slice t x (some y) none none) ty (.string (s.extract i s.size)) := by
  intro A w o ha _ ho _
  have h2 : (Instr.sliceAt t (.string s) (some (.int k (i : Nat))) none none).run P w = .ok (.string (s.extract i s.size)) w := by
    simp [Instr.sliceAt, Instr.slice, Instr.sliceBounds, Instr.sliceBound, asIntOf, run_underlying ht, hi]
  simp [execOp, ho, ha.eval hx, ha.eval hy, h2]
/-- 's[:j]' -/
theorem v_cut_to {j : Nat} (ht : P.underlying t = some .string) (hx : ev l x = some (.string s)) (hy : ev l y = some (.int k (j : Nat))) (hj : j ≤ s.size) :
    OpV P n l own ro (.slice t x none (some y) none) ty (.string (s.extract 0 j)) := by
  intro A w o ha _ ho _
  have h2 : (Instr.sliceAt t (.string s) none (some (.int k (j : Nat))) none).run P w = .ok (.string (s.extract 0 j)) w := by
    simp [Instr.sliceAt, Instr.slice, Instr.sliceBounds, Instr.sliceBound, asIntOf, run_underlying ht, hj]
  simp [execOp, ho, ha.eval hx, ha.eval hy, h2]

/-! ## Places -/
/-- 'x.f' of a struct behind a pointer: the place. -/
theorem v_fieldAddr {fs : Array Field} {f : Field} {j m b off off' : Nat} (ht : P.underlying t = some (.struct fs)) (hf : fs[j]? = some f) (hs : (P.info? f.type).map (·.size) = some m) (hm : m ≠ 0) (hx : ev l x = some (.pointer (some ⟨b, off, none⟩))) (ho' : off + f.offset = off') :
    OpV P n l own ro (.fieldAddr t x j) ty (.pointer (some ⟨b, off', none⟩)) := by
  intro A w o ha _ ho _
  obtain ⟨inf, hi, hsz⟩ := Option.map_eq_some_iff.1 hs
  have : (Addr.mk b off none).add f.offset = ⟨b, off', none⟩ := by
    unfold Addr.add
    split
    · simp <;> omega
    · simp [ho']
  simp [execOp, ho, ha.eval hx, Instr.fieldAt, run_underlying ht, hf, Instr.sureAddr, fieldPlace, sizeOf, typeInfo, hi, hsz, hm, this]
/-- 'xs[i]' of a slice: the place. -/
theorem v_indexAddr {e : TypeId} {j m b off len cap off' : Nat} (ht : P.underlying t = some (.slice e)) (hs : (P.info? e).map (·.size) = some m) (hx : ev l x = some (.slice (some ⟨b, off, none⟩) len cap)) (hy : ev l y = some (.int k (j : Nat))) (hj : j < len) (ho' : off + j * m = off') :
    OpV P n l own ro (.indexAddr t x y) ty (.pointer (some ⟨b, off', none⟩)) := by
  intro A w o ha _ ho _
  obtain ⟨inf, hi, hsz⟩ := Option.map_eq_some_iff.1 hs
  have : (Addr.mk b off none).add (j * m) = ⟨b, off', none⟩ := by
    unfold Addr.add
    split
    · simp <;> omega
    · simp [ho']
  simp [execOp, ho, ha.eval hx, ha.eval hy, Instr.indexAt, run_underlying ht, asIntOf, sizeOf, typeInfo, hi, hsz, hj, this]
end
end Go.PK
