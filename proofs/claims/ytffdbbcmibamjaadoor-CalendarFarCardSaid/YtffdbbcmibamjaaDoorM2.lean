/- Of the proofs of YtffdbbcmibamjaaDoor: PkCnt PkOps5 PkTy PkInts PkSorted PkCnt2, put together. -/
import Derived.Test.YtffdbbcmibamjaaDoorM1
import Derived.OpenShut
/- Of the proofs of YtffdbbcmibamjaaDoor; see NOTES.md. -/
/-! Counting open days: the plain functions. -/
namespace Go.PK
open Go Go.RowKit
set_option linter.unusedVariables false
def bi (b : Bool) : Int := cond b 1 0
theorem bi_rng (b : Bool) : 0 ≤ bi b ∧ bi b ≤ 1 := by cases b <;> decide
def cnt (p : Int → Bool) (f : Int) : Nat → Int
  | 0 => 0
  | k + 1 => cnt p f k + bi (p (f + k))
theorem cnt_rng (p : Int → Bool) (f : Int) : ∀ k, 0 ≤ cnt p f k ∧ cnt p f k ≤ k
  | 0 => ⟨Int.le_refl _, Int.le_refl _⟩
  | k + 1 => by have := cnt_rng p f k; have := bi_rng (p (f + k)); simp only [cnt]; omega
theorem cnt_congr {p q : Int → Bool} {f : Int} : ∀ {k : Nat}, (∀ i, i < k → p (f + i) = q (f + i)) → cnt p f k = cnt q f k
  | 0, _ => rfl
  | k + 1, h => by simp only [cnt]; rw [cnt_congr (k := k) (fun i hi => h i (by omega)), h k (by omega)]
theorem cnt_add (p : Int → Bool) (f : Int) (a : Nat) : ∀ b, cnt p f (a + b) = cnt p f a + cnt p (f + a) b
  | 0 => by simp [cnt]
  | b + 1 => by
    rw [← Nat.add_assoc]
    simp only [cnt]
    rw [cnt_add p f a b, show f + ((a + b : Nat) : Int) = f + a + b by omega]
    omega
theorem cnt_none {p : Int → Bool} {f : Int} : ∀ {k : Nat}, (∀ i, i < k → p (f + i) = false) → cnt p f k = 0
  | 0, _ => rfl
  | k + 1, h => by simp only [cnt]; rw [cnt_none (k := k) (fun i hi => h i (by omega)), h k (by omega)]; rfl
theorem cnt_sub (q r : Int → Bool) (f : Int) : ∀ k, cnt q f k - cnt (fun n => q n && r n) f k = cnt (fun n => q n && !r n) f k
  | 0 => rfl
  | k + 1 => by
    have ih := cnt_sub q r f k
    simp only [cnt]
    generalize q (f + k) = a
    generalize r (f + k) = b
    cases a <;> cases b <;> simp [bi] <;> omega
def wkOpen (wk : List Bool) (n : Int) : Bool := !wk.getD ((n + 3) % 7).toNat false
def tW (wk : List Bool) (f L : Int) (k : Nat) : Int := if wkOpen wk (f + k) = true then (L - k + 6) / 7 else 0
def sW (wk : List Bool) (f L : Int) : Nat → Int
  | 0 => 0
  | m + 1 => sW wk f L m + tW wk f L m
theorem tW_step {wk : List Bool} {f L : Int} {k : Nat} (hk : k < 7) : tW wk f (L + 1) k = tW wk f L k + bi (decide (L % 7 = k) && wkOpen wk (f + L)) := by
  unfold tW
  by_cases hm : L % 7 = k
  · have e : wkOpen wk (f + L) = wkOpen wk (f + k) := by unfold wkOpen; rw [show (f + L + 3) % 7 = (f + k + 3) % 7 by omega]
    rw [e]
    by_cases ho : wkOpen wk (f + k) = true
    · rw [if_pos ho, if_pos ho, decide_eq_true hm, ho]; simp only [bi, Bool.and_self, cond_true]; omega
    · rw [if_neg ho, if_neg ho, Bool.eq_false_iff.2 ho, Bool.and_false]; rfl
  · rw [decide_eq_false hm, Bool.false_and]
    simp only [bi, cond_false]
    split
    · omega
    · rfl
theorem tW_rng (wk : List Bool) {f L : Int} {k : Nat} (hk : k < 7) (hL : 0 ≤ L) : 0 ≤ tW wk f L k ∧ tW wk f L k ≤ L := by
  unfold tW; split <;> omega
theorem tW_zero {wk : List Bool} {f L : Int} {k : Nat} (hk : k < 7) (hL : 0 ≤ L) (h : L ≤ k) : tW wk f L k = 0 := by
  unfold tW; split <;> omega
theorem sW_rng (wk : List Bool) {f L : Int} (hL : 0 ≤ L) : ∀ m, m ≤ 7 → 0 ≤ sW wk f L m ∧ sW wk f L m ≤ m * L
  | 0, _ => by simp [sW]
  | m + 1, h => by
    have h1 := sW_rng wk (f := f) hL m (by omega)
    have h2 := tW_rng wk (f := f) (k := m) (by omega) hL
    simp only [sW]
    rw [show ((m + 1 : Nat) : Int) = m + 1 by omega, Int.add_mul]
    omega
theorem sW_step (wk : List Bool) {f L : Int} (hL : 0 ≤ L) : sW wk f (L + 1) 7 = sW wk f L 7 + bi (wkOpen wk (f + L)) := by
  simp only [sW]
  rw [tW_step (k := 0) (by decide), tW_step (k := 1) (by decide), tW_step (k := 2) (by decide), tW_step (k := 3) (by decide), tW_step (k := 4) (by decide), tW_step (k := 5) (by decide), tW_step (k := 6) (by decide)]
  cases wkOpen wk (f + L)
  · simp [bi]
  · have : L % 7 = 0 ∨ L % 7 = 1 ∨ L % 7 = 2 ∨ L % 7 = 3 ∨ L % 7 = 4 ∨ L % 7 = 5 ∨ L % 7 = 6 := by omega
    rcases this with h | h | h | h | h | h | h <;> simp [h, bi] <;> omega
theorem sW_cnt (wk : List Bool) (f : Int) : ∀ L : Nat, sW wk f L 7 = cnt (wkOpen wk) f L
  | 0 => by
    simp only [sW, cnt]
    have z : ∀ k, k < 7 → tW wk f ((0 : Nat) : Int) k = 0 := fun k hk => tW_zero hk (Int.le_refl _) (by omega)
    rw [z 0 (by decide), z 1 (by decide), z 2 (by decide), z 3 (by decide), z 4 (by decide), z 5 (by decide), z 6 (by decide)]
    rfl
  | L + 1 => by
    have e : ((L + 1 : Nat) : Int) = (L : Int) + 1 := by omega
    rw [e, sW_step wk (by omega), sW_cnt wk f L]
    rfl
theorem sW_short (wk : List Bool) (f : Int) {L : Nat} : ∀ d, L + d ≤ 7 → sW wk f L (L + d) = sW wk f L L
  | 0, _ => rfl
  | d + 1, h => by
    rw [← Nat.add_assoc]
    simp only [sW]
    rw [sW_short wk f d (by omega), tW_zero (by omega) (by omega) (by omega), Int.add_zero]
theorem sW_min (wk : List Bool) (f : Int) (L : Nat) : sW wk f L (min 7 L) = sW wk f L 7 := by
  by_cases h : L ≤ 7
  · rw [Nat.min_eq_right h]
    have := sW_short wk f (L := L) (7 - L) (by omega)
    rw [show L + (7 - L) = 7 by omega] at this
    exact this.symm
  · rw [Nat.min_eq_left (by omega)]
theorem hasI_snoc (l : List Int) (x n : Int) : hasI (l ++ [x]) n = (hasI l n || decide (n = x)) := by simp [hasI]
theorem hasI_iff {l : List Int} {n : Int} : hasI l n = true ↔ n ∈ l := by simp [hasI]
theorem cnt_snoc (q : Int → Bool) (l : List Int) (x f : Int) : ∀ L : Nat, cnt (fun n => q n && hasI (l ++ [x]) n) f L = cnt (fun n => q n && hasI l n) f L + bi (decide (f ≤ x ∧ x < f + L) && (q x && !hasI l x))
  | 0 => by rw [decide_eq_false (by omega)]; rfl
  | L + 1 => by
    simp only [cnt]
    rw [cnt_snoc q l x f L, hasI_snoc]
    by_cases hx : f + L = x
    · subst hx
      rw [decide_eq_false (show ¬(f ≤ f + L ∧ f + L < f + L) by omega), decide_eq_true (show f ≤ f + L ∧ f + L < f + ((L + 1 : Nat) : Int) by omega), decide_eq_true rfl]
      generalize q (f + L) = a
      generalize hasI l (f + L) = b
      cases a <;> cases b <;> simp [bi]
    · have h2 : decide (f ≤ x ∧ x < f + ((L + 1 : Nat) : Int)) = decide (f ≤ x ∧ x < f + (L : Int)) := by
        rw [decide_eq_decide]; omega
      rw [h2, decide_eq_false hx, Bool.or_false]
      omega
theorem cnt_nil (q : Int → Bool) (f : Int) (L : Nat) : cnt (fun n => q n && hasI [] n) f L = 0 := cnt_none (fun i hi => by simp [hasI])
theorem cnt_mem {q : Int → Bool} {l l' : List Int} {f : Int} {L : Nat} (h : ∀ n, n ∈ l ↔ n ∈ l') : cnt (fun n => q n && hasI l n) f L = cnt (fun n => q n && hasI l' n) f L :=
  cnt_congr fun i _ => by
    have : hasI l (f + i) = hasI l' (f + i) := by rw [Bool.eq_iff_iff, hasI_iff, hasI_iff]; exact h _
    rw [this]
/-- The open days from one day to another. -/
def cntP (wk : List Bool) (ds : List Int) (a b : Int) : Int := cnt (openP wk ds) (max a (-719162)) (min b 2932897 - max a (-719162)).toNat
theorem cnt_open {wk : List Bool} {ds : List Int} {f : Int} {L : Nat} (h0 : -719162 ≤ f) (h1 : f + L ≤ 2932897) :
    sW wk f L 7 - cnt (fun n => wkOpen wk n && hasI ds n) f L = cnt (openP wk ds) f L := by
  rw [sW_cnt, cnt_sub]
  refine cnt_congr fun i hi => ?_
  unfold openP wkOpen
  have : okDay (f + i) := ⟨by omega, by omega⟩
  rw [decide_eq_true this, Bool.true_and]
/-! ### slices.Compact behind slices.Sort -/
theorem comp_inv {d : Array Int} (hs : ∀ i j, i ≤ j → j < d.size → d[i]! ≤ d[j]!) : ∀ m, m ≤ d.size →
    (∀ x, x ∈ Lib.compactUpTo d m ↔ ∃ j, j < m ∧ d[j]! = x) ∧ (Lib.compactUpTo d m).Pairwise (· < ·)
  | 0, _ => by simp [Lib.compactUpTo]
  | m + 1, h => by
    obtain ⟨ih1, ih2⟩ := comp_inv hs m (by omega)
    rw [Lib.compactUpTo_succ]
    by_cases hk : Lib.keeps d m = true
    · rw [if_pos hk]
      refine ⟨fun x => ?_, ?_⟩
      · rw [List.mem_append, ih1, List.mem_singleton]
        constructor
        · rintro (⟨j, hj, e⟩ | rfl)
          · exact ⟨j, by omega, e⟩
          · exact ⟨m, by omega, rfl⟩
        · rintro ⟨j, hj, rfl⟩
          rcases Nat.lt_succ_iff_lt_or_eq.1 hj with h | rfl
          · exact .inl ⟨j, h, rfl⟩
          · exact .inr rfl
      · rw [List.pairwise_append]
        refine ⟨ih2, by simp, fun x hx y hy => ?_⟩
        rw [List.mem_singleton] at hy
        subst hy
        obtain ⟨j, hj, rfl⟩ := (ih1 x).1 hx
        unfold Lib.keeps at hk
        have hk := of_decide_eq_true hk
        have h1 := hs j (m - 1) (by omega) (by omega)
        have h2 := hs (m - 1) m (by omega) (by omega)
        rcases hk with rfl | hk
        · omega
        · omega
    · rw [if_neg hk, List.append_nil]
      refine ⟨fun x => ?_, ih2⟩
      rw [ih1]
      constructor
      · rintro ⟨j, hj, e⟩; exact ⟨j, by omega, e⟩
      · rintro ⟨j, hj, rfl⟩
        rcases Nat.lt_succ_iff_lt_or_eq.1 hj with h | rfl
        · exact ⟨j, h, rfl⟩
        · unfold Lib.keeps at hk
          have hk := of_decide_eq_false (Bool.eq_false_iff.2 hk)
          have h0 : ¬ j = 0 := fun e => hk (.inl e)
          have h1 : d[j]! = d[j - 1]! := Decidable.byContradiction fun e => hk (.inr e)
          exact ⟨j - 1, by omega, h1.symm⟩
def srt (zs : List Int) : List Int := zs.mergeSort fun x y => decide (x ≤ y)
theorem srt_len (zs : List Int) : (srt zs).length = zs.length := List.length_mergeSort _
theorem srt_mem {zs : List Int} {x : Int} : x ∈ srt zs ↔ x ∈ zs := by unfold srt; exact List.mem_mergeSort
theorem srt_sorted (zs : List Int) : ∀ i j, i ≤ j → j < (srt zs).toArray.size → (srt zs).toArray[i]! ≤ (srt zs).toArray[j]! := fun i j hij hj => by
  have hp := List.pairwise_mergeSort (le := fun x y : Int => decide (x ≤ y)) (fun a b c h1 h2 => by simp only [decide_eq_true_eq] at *; omega) (fun a b => by simp; omega) zs
  have hj' : j < (srt zs).length := by simpa using hj
  rw [getElem!_pos _ i (by simp; omega), getElem!_pos _ j hj]
  rcases Nat.lt_or_eq_of_le hij with h | rfl
  · have := List.pairwise_iff_getElem.1 hp i j (by show i < (srt zs).length; omega) hj' h
    exact of_decide_eq_true this
  · exact Int.le_refl _
def comp (zs : List Int) : List Int := Lib.compact (srt zs)
theorem comp_mem {zs : List Int} {x : Int} : x ∈ comp zs ↔ x ∈ zs := by
  have h := (comp_inv (srt_sorted zs) (srt zs).length (by simp)).1 x
  unfold comp Lib.compact
  rw [h, ← srt_mem]
  constructor
  · rintro ⟨j, hj, rfl⟩
    rw [getElem!_pos _ j (by simpa using hj)]
    simp
  · intro hx
    obtain ⟨j, hj, e⟩ := List.mem_iff_getElem.1 hx
    exact ⟨j, hj, by rw [getElem!_pos _ j (by simpa using hj)]; simpa using e⟩
theorem comp_new {zs : List Int} {k : Nat} (h : k < (comp zs).length) : hasI ((comp zs).take k) (comp zs)[k] = false := by
  have hp := (comp_inv (srt_sorted zs) (srt zs).length (by simp)).2
  rw [Bool.eq_false_iff, ne_eq, hasI_iff]
  intro hm
  obtain ⟨j, hj, e⟩ := List.mem_iff_getElem.1 hm
  rw [List.getElem_take] at e
  have hj' : j < k := by simp at hj; omega
  have hp' : (comp zs).Pairwise (· < ·) := hp
  have := List.pairwise_iff_getElem.1 hp' j k (by omega) h hj'
  omega
end Go.PK

/- Of the proofs of YtffdbbcmibamjaaDoor; see NOTES.md. -/
/-! max, min, shifts, bits. -/
namespace Go.PK
open Go Go.RowKit
set_option linter.unusedVariables false
section
variable {P : Program} {n : Nat} {l : List (Nat × Value)} {own : List (Nat × Obj)} {ro : List Snap} {ty : TypeId} {x y : Operand} {t t' : TypeId} {k k' : IntKind} {a b : Int}
theorem v_max {tys : Array TypeId} (hx : ev l x = some (.int k a)) (hy : ev l y = some (.int k' b)) : OpV P n l own ro (.call ⟨.builtin .max, #[x, y], tys⟩) ty (.int k (max a b)) := by
  intro A w o ha _ ho _
  have e : (if a < b then b else a) = max a b := by omega
  simp [execOp, ho, resolve, invoke, builtin, ha.eval hx, ha.eval hy, Builtin.max_, Builtin.max2, e]
theorem v_min {tys : Array TypeId} (hx : ev l x = some (.int k a)) (hy : ev l y = some (.int k' b)) : OpV P n l own ro (.call ⟨.builtin .min, #[x, y], tys⟩) ty (.int k (min a b)) := by
  intro A w o ha _ ho _
  have e : (if b < a then b else a) = min a b := by omega
  simp [execOp, ho, resolve, invoke, builtin, ha.eval hx, ha.eval hy, Builtin.min_, Builtin.min2, e]
theorem v_shr (hx : ev l x = some (.int k a)) (hy : ev l y = some (.int k' b)) (h0 : 0 ≤ b) {c : Int} (hc : a / 2 ^ min b.toNat k.bits = c) : OpV P n l own ro (.binOp .shr t x y t') ty (.int k c) := by
  intro A w o ha _ ho _
  have hp : (0 : Int) ≤ 2 ^ min b.toNat k.bits := Int.pow_nonneg (by decide)
  have h1 : ¬ b < 0 := by omega
  simp [execOp, ho, ha.eval hx, ha.eval hy, eqGuard, binOp, Op.shift, h1, Int.fdiv_eq_ediv_of_nonneg _ hp, hc]
theorem v_shl (hx : ev l x = some (.int k a)) (hy : ev l y = some (.int k' b)) (h0 : 0 ≤ b) {c : Int} (hc : k.wrap (a * 2 ^ min b.toNat k.bits) = c) : OpV P n l own ro (.binOp .shl t x y t') ty (.int k c) := by
  intro A w o ha _ ho _
  have h1 : ¬ b < 0 := by omega
  simp [execOp, ho, ha.eval hx, ha.eval hy, eqGuard, binOp, Op.shift, h1, hc]
def andK (k : IntKind) (a b : Int) : Int := k.wrap (BitVec.ofInt k.bits a &&& BitVec.ofInt k.bits b).toNat
def orK (k : IntKind) (a b : Int) : Int := k.wrap (BitVec.ofInt k.bits a ||| BitVec.ofInt k.bits b).toNat
def xorK (k : IntKind) (a b : Int) : Int := k.wrap (BitVec.ofInt k.bits a ^^^ BitVec.ofInt k.bits b).toNat
def andNotK (k : IntKind) (a b : Int) : Int := k.wrap (BitVec.ofInt k.bits a &&& ~~~BitVec.ofInt k.bits b).toNat
theorem v_andK (hx : ev l x = some (.int k a)) (hy : ev l y = some (.int k b)) : OpV P n l own ro (.binOp .and t x y t') ty (.int k (andK k a b)) := by
  intro A w o ha _ ho _
  simp [execOp, ho, ha.eval hx, ha.eval hy, eqGuard, binOp, Op.intBits, andK]
theorem v_orK (hx : ev l x = some (.int k a)) (hy : ev l y = some (.int k b)) : OpV P n l own ro (.binOp .or t x y t') ty (.int k (orK k a b)) := by
  intro A w o ha _ ho _
  simp [execOp, ho, ha.eval hx, ha.eval hy, eqGuard, binOp, Op.intBits, orK]
theorem v_xorK (hx : ev l x = some (.int k a)) (hy : ev l y = some (.int k b)) : OpV P n l own ro (.binOp .xor t x y t') ty (.int k (xorK k a b)) := by
  intro A w o ha _ ho _
  simp [execOp, ho, ha.eval hx, ha.eval hy, eqGuard, binOp, Op.intBits, xorK]
theorem v_andNotK (hx : ev l x = some (.int k a)) (hy : ev l y = some (.int k b)) : OpV P n l own ro (.binOp .andNot t x y t') ty (.int k (andNotK k a b)) := by
  intro A w o ha _ ho _
  simp [execOp, ho, ha.eval hx, ha.eval hy, eqGuard, binOp, Op.intBits, andNotK]
theorem v_len_arr {e : TypeId} {N : Nat} {cs : Array Value} (ht : P.underlying t = some (.array N e)) (hx : ev l x = some (.agg cs)) : OpV P n l own ro (.call ⟨.builtin .len, #[x], #[t]⟩) ty (.int .i64 N) := by
  intro a w o ha _ ho _
  simp [execOp, ho, resolve, invoke, builtin, ha.eval hx, Builtin.len_, run_underlying ht, goInt]
end
end Go.PK

/- Of the proofs of YtffdbbcmibamjaaDoor; see NOTES.md. -/
/-! Types that are put together: records, arrays, and what the arguments of a law read as. -/
namespace Go.PK
open Go Go.RowKit
set_option linter.unusedVariables false
def tyNil : Ty Unit where
  size := 0
  rd := fun _ _ cs _ => cs = []
  len := fun h => by rw [h]; rfl
  keep := fun h _ => h
def tyCons {α β : Type} (T : Ty α) (U : Ty β) : Ty (α × β) where
  size := T.size + U.size
  rd := fun D w cs x => ∃ a b, cs = a ++ b ∧ T.rd D w a x.1 ∧ U.rd D w b x.2
  len := fun ⟨a, b, h, h1, h2⟩ => by rw [h, List.length_append, T.len h1, U.len h2]
  keep := fun ⟨a, b, h, h1, h2⟩ k => ⟨a, b, h, T.keep h1 k, U.keep h2 k⟩
def Ty.map {α β : Type} (T : Ty α) (f : α → β) : Ty β where
  size := T.size
  rd := fun D w cs y => ∃ x, T.rd D w cs x ∧ f x = y
  len := fun ⟨x, h, _⟩ => T.len h
  keep := fun ⟨x, h, e⟩ k => ⟨x, T.keep h k, e⟩
def tyBool : Ty Bool where
  size := 1
  rd := fun _ _ cs x => cs = [.bool x]
  len := fun h => by rw [h]; rfl
  keep := fun h _ => h
def tyK (k : IntKind) : Ty Int where
  size := 1
  rd := fun _ _ cs x => cs = [.int k x] ∧ k.min ≤ x ∧ x ≤ k.max
  len := fun h => by rw [h.1]; rfl
  keep := fun h _ => h
def tyArr {α : Type} (T : Ty α) : Nat → Ty (List α)
  | 0 => tyNil.map fun _ => []
  | n + 1 => (tyCons T (tyArr T n)).map fun p => p.1 :: p.2
theorem tyArr_size {α : Type} (T : Ty α) : ∀ n, (tyArr T n).size = n * T.size
  | 0 => by rw [Nat.zero_mul]; rfl
  | n + 1 => by
    show T.size + (tyArr T n).size = _
    rw [tyArr_size T n, Nat.succ_mul, Nat.add_comm]
theorem arr_bool {D : Nat → Prop} {w : World} : ∀ {n : Nat} {cs : List Value} {xs : List Bool}, (tyArr tyBool n).rd D w cs xs → cs = xs.map Value.bool ∧ xs.length = n
  | 0, cs, xs, h => by
    obtain ⟨x, h1, h2⟩ := h
    subst h2
    exact ⟨h1, rfl⟩
  | n + 1, cs, xs, h => by
    obtain ⟨⟨a, as⟩, ⟨ca, cb, h0, h1, h2⟩, h3⟩ := h
    obtain ⟨h4, h5⟩ := arr_bool h2
    have h1 : ca = [.bool a] := h1
    subst h3
    dsimp only at h4 h5
    exact ⟨by rw [h0, h1, h4]; rfl, by simp [h5]⟩
theorem arr_k {k : IntKind} {D : Nat → Prop} {w : World} : ∀ {n : Nat} {cs : List Value} {xs : List Int}, (tyArr (tyK k) n).rd D w cs xs → cs = xs.map (Value.int k) ∧ xs.length = n ∧ ∀ x ∈ xs, k.min ≤ x ∧ x ≤ k.max
  | 0, cs, xs, h => by
    obtain ⟨x, h1, h2⟩ := h
    subst h2
    exact ⟨h1, rfl, by simp⟩
  | n + 1, cs, xs, h => by
    obtain ⟨⟨a, as⟩, ⟨ca, cb, h0, h1, h2⟩, h3⟩ := h
    obtain ⟨h4, h5, h6⟩ := arr_k h2
    obtain ⟨h1, hb⟩ : ca = [.int k a] ∧ k.min ≤ a ∧ a ≤ k.max := h1
    subst h3
    dsimp only at h4 h5 h6
    refine ⟨by rw [h0, h1, h4]; rfl, by simp [h5], fun x hx => ?_⟩
    rcases List.mem_cons.1 hx with rfl | hx
    · exact hb
    · exact h6 x hx
section
variable {P : Program}
theorem wf_k {k : IntKind} {n : Int} (h : (Lit.int k n).wf = true) : k.min ≤ n ∧ n ≤ k.max := by
  simpa only [Lit.wf, Bool.and_eq_true, decide_eq_true_eq] using h
theorem rdr_bool {t : TypeId} (ht : P.underlying t = some .bool) (hc : P.cellsOf t = 1) : Rdr P t tyBool :=
  ⟨hc, Nat.one_pos, fun h => by obtain ⟨b, rfl, _⟩ := DataW.trod_bool ht h; exact ⟨b, rfl⟩⟩
theorem rdr_k {t : TypeId} {k : IntKind} (ht : P.underlying t = some (.int k)) (hc : P.cellsOf t = 1) : Rdr P t (tyK k) :=
  ⟨hc, Nat.one_pos, fun h => by obtain ⟨n, rfl, _, hw⟩ := DataW.trod_int ht h; exact ⟨n, rfl, wf_k hw⟩⟩
theorem rdr_map {α β : Type} {T : Ty α} {t : TypeId} {f : α → β} (R : Rdr P t T) : Rdr P t (T.map f) :=
  ⟨R.size, R.pos, fun h => by obtain ⟨y, hy⟩ := R.rd h; exact ⟨f y, y, hy, rfl⟩⟩
theorem rdr_slice {α : Type} {T : Ty α} {t e : TypeId} (ht : P.underlying t = some (.slice e)) (hc : P.cellsOf t = 1) (R : Rdr P e T) : Rdr P t (tySlice T) :=
  ⟨hc, Nat.one_pos, fun h => by obtain ⟨v, xs, e1, h1, _⟩ := trod_rd ht R h; exact ⟨xs, v, e1, h1⟩⟩
theorem arr_of {α : Type} {T : Ty α} {w : World} : ∀ (n : Nat) (cs : List Value), cs.length = n * T.size → (∀ i, i < n → ∃ y, T.rd (fun _ => True) w ((cs.drop (i * T.size)).take T.size) y) → ∃ ys, (tyArr T n).rd (fun _ => True) w cs ys
  | 0, cs, hl, _ => ⟨[], (), List.eq_nil_of_length_eq_zero (by rw [hl, Nat.zero_mul]), rfl⟩
  | n + 1, cs, hl, h => by
    obtain ⟨y, hy⟩ := h 0 (Nat.succ_pos n)
    rw [Nat.zero_mul, List.drop_zero] at hy
    obtain ⟨ys, hys⟩ := arr_of (T := T) (w := w) n (cs.drop T.size) (by rw [List.length_drop, hl, Nat.succ_mul]; omega) (fun i hi => by
      obtain ⟨z, hz⟩ := h (i + 1) (by omega)
      rw [Nat.succ_mul, Nat.add_comm, ← List.drop_drop] at hz
      exact ⟨z, hz⟩)
    exact ⟨y :: ys, (y, ys), ⟨_, _, (List.take_append_drop T.size cs).symm, hy, hys⟩, rfl⟩
theorem rdr_arr {α : Type} {T : Ty α} {t e : TypeId} {n : Nat} (ht : P.underlying t = some (.array n e)) (hc : P.cellsOf t = n * T.size) (hn : 0 < n) (R : Rdr P e T) : Rdr P t (tyArr T n) :=
  ⟨by rw [tyArr_size]; exact hc, by rw [tyArr_size]; exact Nat.mul_pos hn R.pos, @fun H enc w base sp held fuel cs x h => by
    obtain ⟨xs, m, _, _, hl, hx, hh⟩ := DataW.trod_array ht h
    refine arr_of n cs (by rw [hl, hc]) fun i hi => ?_
    have h1 := hh i hi
    rw [List.getElem?_eq_getElem (by omega), R.size] at h1
    exact R.rd h1⟩
inductive Flds (P : Program) : Nat → List Field → (β : Type) → Ty β → Prop where
  | nil (off : Nat) : Flds P off [] Unit tyNil
  | cons {α β : Type} {T : Ty α} {U : Ty β} {off : Nat} {f : Field} {fs : List Field} (ho : f.offset = off) (R : Rdr P f.type T) (h : Flds P (off + T.size) fs β U) : Flds P off (f :: fs) (α × β) (tyCons T U)
theorem flds_of {H : Type} {enc : TypeId × Value → H} {w : World} {base m : Nat} {sp : Nat → Bool} {held : Bool} {cs : List Value} {off : Nat} {fs : List Field} {β : Type} {U : Ty β} (F : Flds P off fs β U) :
    (∀ f ∈ fs, ∃ x, DataW.trod enc P w base sp held m f.type ((cs.drop f.offset).take (P.cellsOf f.type)) = some x) → cs.length = off + U.size → ∃ y, U.rd (fun _ => True) w (cs.drop off) y := by
  induction F with
  | nil off => exact fun _ hl => ⟨(), List.drop_eq_nil_of_le (by rw [hl]; exact Nat.le_refl _)⟩
  | @cons α β T U off f fs ho R F ih =>
    intro h hl
    have hl : cs.length = off + (T.size + U.size) := hl
    obtain ⟨y, hy⟩ := ih (fun g hg => h g (List.mem_cons_of_mem _ hg)) (by omega)
    obtain ⟨x, hx⟩ := h f (List.mem_cons_self ..)
    rw [ho, R.size] at hx
    obtain ⟨z, hz⟩ := R.rd hx
    refine ⟨(z, y), _, _, (List.take_append_drop T.size _).symm, hz, ?_⟩
    rw [List.drop_drop]
    exact hy
theorem rdr_struct {t : TypeId} {fs : Array Field} {β : Type} {U : Ty β} (ht : P.underlying t = some (.struct fs)) (hc : P.cellsOf t = U.size) (hp : 0 < U.size) (F : Flds P 0 fs.toList β U) : Rdr P t U :=
  ⟨hc, hp, @fun H enc w base sp held fuel cs x h => by
    obtain ⟨xs, m, _, _, hl, hx, hh⟩ := DataW.trod_struct ht h
    have := flds_of (enc := enc) (base := base) (sp := sp) (held := held) (m := m) (cs := cs) (w := w) F (fun f hf => by
      obtain ⟨i, hi, rfl⟩ := List.mem_iff_getElem.1 hf
      have h1 := hh i fs.toList[i] (by simp)
      have hi' : i < fs.size := by simpa using hi
      rw [List.getElem?_eq_getElem (by omega)] at h1
      exact ⟨_, h1⟩) (by rw [hl, hc]; omega)
    simpa using this⟩
variable {H : Type} {enc : TypeId × Value → H} {W : World} {base b0 : Nat} {sp : Nat → Bool} {held : Bool} {r : Reach} {t e : TypeId} {v : Value} {d : DataW H} {ps : List MemPlace}
theorem top_rd {α : Type} {T : Ty α} (R : Rdr P t T) (h : DataW.Trod enc P W base sp held t v d ps) : ∃ y, T.rd (fun _ => True) W v.cells.toList y := by
  obtain ⟨n, hn⟩ := h
  exact R.rd hn
theorem top_agg {α : Type} {T : Ty α} {td : TypeDesc} (ht : P.underlying t = some td) (hd : aggT td = true) (R : Rdr P t T) (hval : Value.okWide P W r b0 t v) (h : DataW.Trod enc P W base sp held t v d ps) : ∃ cs y, v = .agg cs ∧ T.rd (fun _ => True) W cs.toList y := by
  obtain ⟨y, hy⟩ := top_rd R h
  have hv : ∃ cs, v = .agg cs := by
    unfold Value.okWide at hval
    rw [ht] at hval
    cases td <;> simp_all [aggT]
    all_goals (obtain ⟨cs, h, _⟩ := hval; exact ⟨cs, h⟩)
  obtain ⟨cs, rfl⟩ := hv
  exact ⟨cs, y, rfl, hy⟩
theorem top_k {k : IntKind} (ht : P.underlying t = some (.int k)) (hval : Value.okWide P W r b0 t v) (h : DataW.Trod enc P W base sp held t v d ps) : ∃ n, v = .int k n ∧ k.min ≤ n ∧ n ≤ k.max := by
  obtain ⟨m, hm⟩ := h
  obtain ⟨n, hc, _, hw⟩ := DataW.trod_int ht hm
  refine ⟨n, ?_, wf_k hw⟩
  cases v <;> simp_all [Value.okWide, Cell.okWide, Cell.ok, Value.cells]
theorem top_bool (ht : P.underlying t = some .bool) (hval : Value.okWide P W r b0 t v) (h : DataW.Trod enc P W base sp held t v d ps) : ∃ b, v = .bool b := by
  obtain ⟨m, hm⟩ := h
  obtain ⟨n, hc, _⟩ := DataW.trod_bool ht hm
  refine ⟨n, ?_⟩
  cases v <;> simp_all [Value.okWide, Cell.okWide, Cell.ok, Value.cells]
end
end Go.PK

/- Of the proofs of YtffdbbcmibamjaaDoor; see NOTES.md. -/
/-! Rows of integers that the call has made, and bytes that were given. -/
namespace Go.PK
open Go Go.RowKit
set_option linter.unusedVariables false
theorem rowI_T {D : Nat → Prop} {ws : World} {r : RowS} {ds : List Int} {n : Nat} (hr : rowOK 1 r n (ds.map (Value.int .i64))) (hn : n = ds.length) (hin : ∀ d ∈ ds, in64 d) : RowT tyI D ws r ds := by
  subst hn
  refine ⟨ds.map fun d => [.int .i64 d], by simp, ?_, fun j h1 h2 => ?_⟩
  · have e : (ds.map fun d => [Value.int .i64 d]).flatten = ds.map (Value.int .i64) := by
      clear hr hin
      induction ds with
      | nil => rfl
      | cons x xs ih => simp [ih]
    rw [e]; exact hr
  · rw [List.getElem_map]
    exact ⟨rfl, hin _ (List.getElem_mem h2)⟩
theorem rowI_rd {D : Nat → Prop} {w : World} {own : List (Nat × Obj)} {ro : List Snap} {e : TypeId} {r : RowS} {ds : List Int} {n : Nat} (hr : rowOK 1 r n (ds.map (Value.int .i64))) (hn : n = ds.length) (hi : ∀ d ∈ ds, in64 d)
    (hm : Mem w own ro) (hin : ∀ p ∈ rowO e r, p ∈ own) (hD : ∀ p ∈ rowO e r, D p.1) : sliceRd tyI D w (rowV r n) ds :=
  (rowI_T (D := fun _ => False) (ws := w) hr hn hi).rd hm hin (fun _ h => h.elim) hD hn
theorem k_at {kk : IntKind} {D : Nat → Prop} {w : World} {A : Option Addr} {l c : Nat} {xs : List Int} (h : sliceRd (tyK kk) D w (.slice A l c) xs) {k : Nat} (hk : k < xs.length) :
    ∃ b off, A = some ⟨b, off, none⟩ ∧ D b ∧ w.cell? ⟨b, off + k, none⟩ = some (.int kk xs[k]) ∧ kk.min ≤ xs[k] ∧ xs[k] ≤ kk.max := by
  obtain ⟨A', c', e, h1, h2, h3⟩ := h
  injection e with e1 e2 e3
  obtain ⟨b, off, hA, hD, hb, hc⟩ := h3 (by omega)
  obtain ⟨cs, hcs, rfl, hok⟩ := hc k hk
  have := hcs 0 (by simp)
  exact ⟨b, off, e1.trans hA, hD, by simpa [tyK] using this, hok⟩
theorem u8_rng {x : Int} (h : IntKind.u8.min ≤ x ∧ x ≤ IntKind.u8.max) : 0 ≤ x ∧ x ≤ 255 := by
  have h1 : IntKind.u8.min = 0 := by decide
  have h2 : IntKind.u8.max = 255 := by decide
  omega
theorem u16_rng {x : Int} (h : IntKind.u16.min ≤ x ∧ x ≤ IntKind.u16.max) : 0 ≤ x ∧ x ≤ 65535 := by
  have h1 : IntKind.u16.min = 0 := by decide
  have h2 : IntKind.u16.max = 65535 := by decide
  omega
theorem calC_len {wk : List Bool} {v : Value} : (calC wk v).length = wk.length + 1 := by simp [calC]
theorem calC_set {wk : List Bool} {v : Value} {k : Nat} {b : Bool} (h : k < wk.length) : List.take k (calC wk v) ++ (Value.bool b).cells.toList ++ List.drop (k + 1) (calC wk v) = calC (wk.set k b) v := by
  show List.take k (calC wk v) ++ [Value.bool b] ++ List.drop (k + 1) (calC wk v) = _
  have e : (calC wk v).set k (.bool b) = calC (wk.set k b) v := by
    unfold calC
    rw [List.set_append_left _ _ (by simpa using h), List.map_set]
  rw [← e, List.set_eq_take_append_cons_drop, if_pos (by rw [calC_len]; omega)]
  simp
theorem calC_put {wk : List Bool} {v : Value} {r : RowS} {n : Nat} (h : wk.length = 7) : List.take 7 (calC wk v) ++ (rowV r n).cells.toList ++ List.drop (7 + 1) (calC wk v) = calC wk (rowV r n) := by
  show List.take 7 (calC wk v) ++ [rowV r n] ++ List.drop (7 + 1) (calC wk v) = _
  unfold calC
  rw [List.take_append_of_le_length (by simp [h]), List.take_of_length_le (by simp [h]), List.drop_eq_nil_of_le (by simp [h]), List.append_nil]
def bitU (u : Int) (k : Nat) : Bool := decide (andK .u8 (u / 2 ^ k) 1 = 1)
/-- The closed weekdays by bits: the first k of them. -/
def wkP (u : Int) (k : Nat) : List Bool := (List.range 7).map fun j => decide (j < k) && bitU u j
theorem wkP_len (u : Int) (k : Nat) : (wkP u k).length = 7 := by simp [wkP]
theorem wkP_set {u : Int} {k : Nat} (h : k < 7) : (wkP u k).set k (bitU u k) = wkP u (k + 1) := by
  apply List.ext_getElem (by simp [wkP])
  intro j h1 h2
  have hj : j < 7 := by simpa [wkP] using h2
  rw [List.getElem_set]
  simp only [wkP, List.getElem_map, List.getElem_range]
  split
  · rename_i e; subst e; simp
  · rename_i e
    have : decide (j < k + 1) = decide (j < k) := by rw [decide_eq_decide]; omega
    rw [this]
def wkOf (u : Int) : List Bool := wkP u 7
theorem wkOf_len (u : Int) : (wkOf u).length = 7 := wkP_len u 7
def madeD (near : Int) (l : List Int) : List Int := (l.take 20).map fun x => near.tmod 3000000 + x % 60 - 10
theorem madeD_len (near : Int) (l : List Int) : (madeD near l).length ≤ 20 := by simp [madeD]; omega
theorem madeD_in (near : Int) (l : List Int) : ∀ d ∈ madeD near l, -3000010 ≤ d ∧ d ≤ 3000050 := fun d hd => by
  obtain ⟨x, _, rfl⟩ := List.mem_map.1 hd
  have := tmod_bd near 3000000 (by decide)
  omega
theorem madeD_snoc {near : Int} {l : List Int} {k : Nat} (hk : k < l.length) (h : k < 20) : madeD near (l.take (k + 1)) = madeD near (l.take k) ++ [near.tmod 3000000 + l[k] % 60 - 10] := by
  unfold madeD
  rw [List.take_take, List.take_take, Nat.min_eq_right (by omega), Nat.min_eq_right (by omega), ← List.take_append_getElem hk, List.map_append]
  rfl
theorem madeD_all {near : Int} {l : List Int} {k : Nat} (h : k = l.length ∨ k = 20) : madeD near (l.take k) = madeD near l := by
  unfold madeD
  rw [List.take_take]
  rcases h with rfl | rfl
  · by_cases h : l.length ≤ 20
    · rw [Nat.min_eq_right h, List.take_of_length_le (Nat.le_refl _), List.take_of_length_le h]
    · rw [Nat.min_eq_left (by omega)]
  · rfl
end Go.PK

/- Of the proofs of YtffdbbcmibamjaaDoor; see NOTES.md. -/
/-! Closed days in order: what 'Sorted' makes. -/
namespace Go.PK
open Go Go.RowKit
set_option linter.unusedVariables false
def stp1 (d : Int) (s : List Int × Bool) (e : Int) : List Int × Bool :=
  if d ≤ e ∧ s.2 = false then (if e = d then (s.1 ++ [d], true) else (s.1 ++ [d] ++ [e], true)) else (if e = d then s else (s.1 ++ [e], s.2))
def stp (d : Int) (zs : List Int) : List Int × Bool := zs.foldl (stp1 d) ([], false)
theorem stp_snoc (d : Int) (zs : List Int) (e : Int) : stp d (zs ++ [e]) = stp1 d (stp d zs) e := by unfold stp; rw [List.foldl_append]; rfl
theorem stp_take {d : Int} {zs : List Int} {j : Nat} (h : j < zs.length) : stp d (zs.take (j + 1)) = stp1 d (stp d (zs.take j)) zs[j] := by rw [← List.take_append_getElem h, stp_snoc]
def insI (d : Int) (zs : List Int) : List Int := if (stp d zs).2 = true then (stp d zs).1 else (stp d zs).1 ++ [d]
def srtD (ds : List Int) : List Int := ds.foldl (fun acc d => if okDay d then insI d acc else acc) []
theorem srtD_take {ds : List Int} {k : Nat} (h : k < ds.length) : srtD (ds.take (k + 1)) = if okDay ds[k] then insI ds[k] (srtD (ds.take k)) else srtD (ds.take k) := by
  rw [← List.take_append_getElem h]; unfold srtD; rw [List.foldl_append]; rfl
theorem snoc_ind {P : List Int → Prop} (h0 : P []) (h1 : ∀ l x, P l → P (l ++ [x])) : ∀ l, P l := fun l => by
  have := List.reverse_reverse l
  rw [← this]
  generalize l.reverse = r
  induction r with
  | nil => exact h0
  | cons x xs ih => rw [List.reverse_cons]; exact h1 _ _ ih
theorem stp_len (d : Int) : ∀ zs, (stp d zs).1.length + (if (stp d zs).2 = true then 0 else 1) ≤ zs.length + 1 :=
  snoc_ind (by simp [stp]) fun l x ih => by
    rw [stp_snoc]
    unfold stp1
    cases h : (stp d l).2
    · rw [h] at ih
      simp only [Bool.false_eq_true, if_false] at ih
      split
      · split <;> simp <;> omega
      · split
        · simp [h]; omega
        · simp; omega
    · rw [h] at ih
      simp only [if_true] at ih
      rw [if_neg (by simp)]
      split
      · simp; omega
      · simp; omega
theorem insI_len (d : Int) (zs : List Int) : (insI d zs).length ≤ zs.length + 1 := by
  have := stp_len d zs
  unfold insI
  split
  · rename_i h; rw [if_pos h] at this; omega
  · rename_i h; rw [if_neg h] at this; simp; omega
theorem srtD_len (ds : List Int) : (srtD ds).length ≤ ds.length := by
  refine snoc_ind (P := fun ds => (srtD ds).length ≤ ds.length) (by simp [srtD]) (fun l x ih => ?_) ds
  have e : srtD (l ++ [x]) = if okDay x then insI x (srtD l) else srtD l := by unfold srtD; rw [List.foldl_append]; rfl
  rw [e]
  have := insI_len x (srtD l)
  split <;> simp <;> omega
theorem pw_snoc {l : List Int} {x : Int} (h : l.Pairwise (· < ·)) (hx : ∀ y ∈ l, y < x) : (l ++ [x]).Pairwise (· < ·) := by
  rw [List.pairwise_append]
  exact ⟨h, by simp, fun a ha b hb => by rw [List.mem_singleton] at hb; subst hb; exact hx a ha⟩
theorem stp_is (d : Int) : ∀ zs : List Int, zs.Pairwise (· < ·) →
    ((stp d zs).2 = false → (stp d zs).1 = zs ∧ ∀ x ∈ zs, x < d) ∧ ((stp d zs).2 = true → (stp d zs).1.Pairwise (· < ·) ∧ (∀ x, x ∈ (stp d zs).1 ↔ x = d ∨ x ∈ zs) ∧ ∃ x ∈ zs, d ≤ x) :=
  snoc_ind (fun _ => ⟨fun _ => ⟨rfl, by simp⟩, fun h => by simp [stp] at h⟩) fun l e ih hp => by
    rw [List.pairwise_append] at hp
    obtain ⟨hp1, _, hp2⟩ := hp
    have hle : ∀ x ∈ l, x < e := fun x hx => hp2 x hx e (by simp)
    obtain ⟨i1, i2⟩ := ih hp1
    rw [stp_snoc]
    unfold stp1
    cases h : (stp d l).2
    · obtain ⟨e1, e2⟩ := i1 h
      rw [e1]
      by_cases hd : d ≤ e
      · rw [if_pos ⟨hd, rfl⟩]
        by_cases he : e = d
        · subst he
          rw [if_pos rfl]
          refine ⟨fun h => by simp at h, fun _ => ⟨pw_snoc hp1 e2, fun x => ?_, e, by simp, Int.le_refl _⟩⟩
          simp only [List.mem_append, List.mem_singleton]
          constructor
          · rintro (h | h)
            · exact .inr (.inl h)
            · exact .inl h
          · rintro (h | h | h)
            · exact .inr h
            · exact .inl h
            · exact .inr h
        · rw [if_neg he]
          refine ⟨fun h => by simp at h, fun _ => ⟨pw_snoc (pw_snoc hp1 e2) (fun y hy => ?_), fun x => ?_, e, by simp, hd⟩⟩
          · rcases List.mem_append.1 hy with hy | hy
            · exact hle y hy
            · rw [List.mem_singleton] at hy; omega
          · simp only [List.mem_append, List.mem_singleton]
            constructor
            · rintro ((h | h) | h)
              · exact .inr (.inl h)
              · exact .inl h
              · exact .inr (.inr h)
            · rintro (h | h | h)
              · exact .inl (.inr h)
              · exact .inl (.inl h)
              · exact .inr h
      · rw [if_neg (fun h => hd h.1), if_neg (by omega)]
        refine ⟨fun _ => ⟨rfl, fun x hx => ?_⟩, fun h2 => by simp at h2⟩
        rcases List.mem_append.1 hx with hx | hx
        · exact e2 x hx
        · rw [List.mem_singleton] at hx; omega
    · obtain ⟨e1, e2, y, hy, hdy⟩ := i2 h
      have hye := hle y hy
      rw [if_neg (by simp), if_neg (by omega)]
      refine ⟨fun h2 => by simp at h2, fun _ => ⟨pw_snoc e1 (fun x hx => ?_), fun x => ?_, y, by simp [hy], hdy⟩⟩
      · rcases (e2 x).1 hx with rfl | hx
        · omega
        · exact hle x hx
      · simp only [List.mem_append, List.mem_singleton, e2, or_assoc]
theorem insI_is (d : Int) {zs : List Int} (hp : zs.Pairwise (· < ·)) : (insI d zs).Pairwise (· < ·) ∧ ∀ x, x ∈ insI d zs ↔ x = d ∨ x ∈ zs := by
  obtain ⟨h1, h2⟩ := stp_is d zs hp
  unfold insI
  split
  · rename_i h; obtain ⟨a, b, _⟩ := h2 h; exact ⟨a, b⟩
  · rename_i h
    obtain ⟨a, b⟩ := h1 (by simpa using h)
    rw [a]
    exact ⟨pw_snoc hp b, fun x => by simp only [List.mem_append, List.mem_singleton]; exact Or.comm⟩
theorem srtD_is (ds : List Int) : (srtD ds).Pairwise (· < ·) ∧ ∀ x, x ∈ srtD ds ↔ okDay x ∧ x ∈ ds := by
  refine snoc_ind (P := fun ds => (srtD ds).Pairwise (· < ·) ∧ ∀ x, x ∈ srtD ds ↔ okDay x ∧ x ∈ ds) (by simp [srtD]) (fun l x ⟨i1, i2⟩ => ?_) ds
  have e : srtD (l ++ [x]) = if okDay x then insI x (srtD l) else srtD l := by unfold srtD; rw [List.foldl_append]; rfl
  rw [e]
  split
  · rename_i hx
    obtain ⟨a, b⟩ := insI_is x i1
    refine ⟨a, fun y => ?_⟩
    rw [b, i2]
    simp only [List.mem_append, List.mem_singleton]
    constructor
    · rintro (rfl | ⟨h1, h2⟩)
      · exact ⟨hx, .inr rfl⟩
      · exact ⟨h1, .inl h2⟩
    · rintro ⟨h1, h2 | h2⟩
      · exact .inr ⟨h1, h2⟩
      · exact .inl h2
  · rename_i hx
    refine ⟨i1, fun y => ?_⟩
    rw [i2]
    simp only [List.mem_append, List.mem_singleton]
    constructor
    · rintro ⟨h1, h2⟩; exact ⟨h1, .inl h2⟩
    · rintro ⟨h1, h2 | h2⟩
      · exact ⟨h1, h2⟩
      · subst h2; exact absurd h1 hx
theorem srtD_right (ds : List Int) : rightP (srtD ds) = true := by
  obtain ⟨h1, h2⟩ := srtD_is ds
  refine right_yes fun j hj _ => ⟨((h2 _).1 (List.getElem_mem hj)).1, fun h0 => ?_⟩
  exact List.pairwise_iff_getElem.1 h1 (j - 1) j (by omega) hj (by omega)
theorem srtD_open (wk : List Bool) (ds : List Int) (n : Int) : openP wk (srtD ds) n = openP wk ds n := by
  unfold openP
  by_cases h : okDay n
  · have : hasI (srtD ds) n = hasI ds n := by
      rw [Bool.eq_iff_iff, hasI_iff, hasI_iff, (srtD_is ds).2]
      exact ⟨fun h => h.2, fun x => ⟨h, x⟩⟩
    rw [this]
  · rw [decide_eq_false h]; rfl
theorem srtD_in (ds : List Int) : ∀ d ∈ srtD ds, in64 d := fun d hd => by
  have := (((srtD_is ds).2 d).1 hd).1
  unfold okDay at this
  unfold in64; omega
end Go.PK

/- Of the proofs of YtffdbbcmibamjaaDoor; see NOTES.md. -/
/-! Counting open days: adding up. -/
namespace Go.PK
open Go Go.RowKit
set_option linter.unusedVariables false
theorem openP_no {wk : List Bool} {ds : List Int} {n : Int} (h : ¬okDay n) : openP wk ds n = false := by unfold openP; rw [decide_eq_false h]; rfl
theorem cnt_full (wk : List Bool) (ds : List Int) (a b : Int) : cnt (openP wk ds) a (b - a).toNat = cntP wk ds a b := by
  unfold cntP
  by_cases hab : b ≤ a
  · rw [show (b - a).toNat = 0 by omega, show (min b 2932897 - max a (-719162)).toNat = 0 by omega]; rfl
  · by_cases he : min b 2932897 ≤ max a (-719162)
    · rw [show (min b 2932897 - max a (-719162)).toNat = 0 by omega, cnt_none fun i hi => openP_no fun h => by unfold okDay at h; omega]; rfl
    · obtain ⟨x, hx⟩ : ∃ x : Nat, (x : Int) = max a (-719162) - a := ⟨(max a (-719162) - a).toNat, by omega⟩
      obtain ⟨y, hy⟩ : ∃ y : Nat, (y : Int) = min b 2932897 - max a (-719162) := ⟨(min b 2932897 - max a (-719162)).toNat, by omega⟩
      obtain ⟨z, hz⟩ : ∃ z : Nat, (z : Int) = b - min b 2932897 := ⟨(b - min b 2932897).toNat, by omega⟩
      rw [show (b - a).toNat = x + (y + z) by omega, cnt_add, cnt_add, cnt_none (k := x) fun i hi => openP_no fun h => by unfold okDay at h; omega,
        cnt_none (k := z) fun i hi => openP_no fun h => by unfold okDay at h; omega, show a + (x : Int) = max a (-719162) by omega, show (min b 2932897 - max a (-719162)).toNat = y by omega]
      omega
theorem cntP_add (wk : List Bool) (ds : List Int) {a m t : Int} (h1 : a ≤ m) (h2 : m ≤ t) : cntP wk ds a m + cntP wk ds m t = cntP wk ds a t := by
  rw [← cnt_full, ← cnt_full, ← cnt_full]
  obtain ⟨x, hx⟩ : ∃ x : Nat, (x : Int) = m - a := ⟨(m - a).toNat, by omega⟩
  obtain ⟨y, hy⟩ : ∃ y : Nat, (y : Int) = t - m := ⟨(t - m).toNat, by omega⟩
  rw [show (t - a).toNat = x + y by omega, cnt_add, show (m - a).toNat = x by omega, show (t - m).toNat = y by omega, show a + (x : Int) = m by omega]
theorem cntP_zero (wk : List Bool) (ds : List Int) {a b : Int} (h : b ≤ a) : cntP wk ds a b = 0 := by
  rw [← cnt_full, show (b - a).toNat = 0 by omega]; rfl
theorem cntP_rng (wk : List Bool) (ds : List Int) (a b : Int) : 0 ≤ cntP wk ds a b ∧ cntP wk ds a b ≤ 3652059 := by
  have := cnt_rng (openP wk ds) (max a (-719162)) (min b 2932897 - max a (-719162)).toNat
  unfold cntP; omega
end Go.PK
