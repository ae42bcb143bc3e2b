/- Of the proofs of YtffdbbcmibamjaaDoor: PkCnt PkOps5 PkTy PkInts PkSorted PkCnt2 PkBytes PkTree PkTree2 PkTree3 PkTop, put together. -/
import Derived.Test.YtffdbbcmibamjaaDoorM1
import Derived.OpenShut
import Derived.Lib.ConvBytes
import Derived.Laws.AppendOwn
/- Of the proofs of YtffdbbcmibamjaaDoor; see NOTES.md. -/
/-! Counting open days: the plain functions. -/
namespace Go.PK
open Go Go.RowKit
set_option linter.unusedVariables false
def bi (b : Bool) : Int := cond b 1 0
theorem bi_rng (b : Bool) : 0 ≤ bi b ∧ bi b ≤ 1 := by cases b <;> decide
def cnt (p : Int → Bool) (f : Int) : Nat → Int
  | 0 => 0
  | k + 1 => cnt p f k + bi (p (f + k))
theorem cnt_rng (p : Int → Bool) (f : Int) : ∀ k, 0 ≤ cnt p f k ∧ cnt p f k ≤ k
  | 0 => ⟨Int.le_refl _, Int.le_refl _⟩
  | k + 1 => by have := cnt_rng p f k; have := bi_rng (p (f + k)); simp only [cnt]; omega
theorem cnt_congr {p q : Int → Bool} {f : Int} : ∀ {k : Nat}, (∀ i, i < k → p (f + i) = q (f + i)) → cnt p f k = cnt q f k
  | 0, _ => rfl
  | k + 1, h => by simp only [cnt]; rw [cnt_congr (k := k) (fun i hi => h i (by omega)), h k (by omega)]
theorem cnt_add (p : Int → Bool) (f : Int) (a : Nat) : ∀ b, cnt p f (a + b) = cnt p f a + cnt p (f + a) b
  | 0 => by simp [cnt]
  | b + 1 => by
    rw [← Nat.add_assoc]
    simp only [cnt]
    rw [cnt_add p f a b, show f + ((a + b : Nat) : Int) = f + a + b by omega]
    omega
theorem cnt_none {p : Int → Bool} {f : Int} : ∀ {k : Nat}, (∀ i, i < k → p (f + i) = false) → cnt p f k = 0
  | 0, _ => rfl
  | k + 1, h => by simp only [cnt]; rw [cnt_none (k := k) (fun i hi => h i (by omega)), h k (by omega)]; rfl
theorem cnt_sub (q r : Int → Bool) (f : Int) : ∀ k, cnt q f k - cnt (fun n => q n && r n) f k = cnt (fun n => q n && !r n) f k
  | 0 => rfl
  | k + 1 => by
    have ih := cnt_sub q r f k
    simp only [cnt]
    generalize q (f + k) = a
    generalize r (f + k) = b
    cases a <;> cases b <;> simp [bi] <;> omega
def wkOpen (wk : List Bool) (n : Int) : Bool := !wk.getD ((n + 3) % 7).toNat false
def tW (wk : List Bool) (f L : Int) (k : Nat) : Int := if wkOpen wk (f + k) = true then (L - k + 6) / 7 else 0
def sW (wk : List Bool) (f L : Int) : Nat → Int
  | 0 => 0
  | m + 1 => sW wk f L m + tW wk f L m
theorem tW_step {wk : List Bool} {f L : Int} {k : Nat} (hk : k < 7) : tW wk f (L + 1) k = tW wk f L k + bi (decide (L % 7 = k) && wkOpen wk (f + L)) := by
  unfold tW
  by_cases hm : L % 7 = k
  · have e : wkOpen wk (f + L) = wkOpen wk (f + k) := by unfold wkOpen; rw [show (f + L + 3) % 7 = (f + k + 3) % 7 by omega]
    rw [e]
    by_cases ho : wkOpen wk (f + k) = true
    · rw [if_pos ho, if_pos ho, decide_eq_true hm, ho]; simp only [bi, Bool.and_self, cond_true]; omega
    · rw [if_neg ho, if_neg ho, Bool.eq_false_iff.2 ho, Bool.and_false]; rfl
  · rw [decide_eq_false hm, Bool.false_and]
    simp only [bi, cond_false]
    split
    · omega
    · rfl
theorem tW_rng (wk : List Bool) {f L : Int} {k : Nat} (hk : k < 7) (hL : 0 ≤ L) : 0 ≤ tW wk f L k ∧ tW wk f L k ≤ L := by
  unfold tW; split <;> omega
theorem tW_zero {wk : List Bool} {f L : Int} {k : Nat} (hk : k < 7) (hL : 0 ≤ L) (h : L ≤ k) : tW wk f L k = 0 := by
  unfold tW; split <;> omega
theorem sW_rng (wk : List Bool) {f L : Int} (hL : 0 ≤ L) : ∀ m, m ≤ 7 → 0 ≤ sW wk f L m ∧ sW wk f L m ≤ m * L
  | 0, _ => by simp [sW]
  | m + 1, h => by
    have h1 := sW_rng wk (f := f) hL m (by omega)
    have h2 := tW_rng wk (f := f) (k := m) (by omega) hL
    simp only [sW]
    rw [show ((m + 1 : Nat) : Int) = m + 1 by omega, Int.add_mul]
    omega
theorem sW_step (wk : List Bool) {f L : Int} (hL : 0 ≤ L) : sW wk f (L + 1) 7 = sW wk f L 7 + bi (wkOpen wk (f + L)) := by
  simp only [sW]
  rw [tW_step (k := 0) (by decide), tW_step (k := 1) (by decide), tW_step (k := 2) (by decide), tW_step (k := 3) (by decide), tW_step (k := 4) (by decide), tW_step (k := 5) (by decide), tW_step (k := 6) (by decide)]
  cases wkOpen wk (f + L)
  · simp [bi]
  · have : L % 7 = 0 ∨ L % 7 = 1 ∨ L % 7 = 2 ∨ L % 7 = 3 ∨ L % 7 = 4 ∨ L % 7 = 5 ∨ L % 7 = 6 := by omega
    rcases this with h | h | h | h | h | h | h <;> simp [h, bi] <;> omega
theorem sW_cnt (wk : List Bool) (f : Int) : ∀ L : Nat, sW wk f L 7 = cnt (wkOpen wk) f L
  | 0 => by
    simp only [sW, cnt]
    have z : ∀ k, k < 7 → tW wk f ((0 : Nat) : Int) k = 0 := fun k hk => tW_zero hk (Int.le_refl _) (by omega)
    rw [z 0 (by decide), z 1 (by decide), z 2 (by decide), z 3 (by decide), z 4 (by decide), z 5 (by decide), z 6 (by decide)]
    rfl
  | L + 1 => by
    have e : ((L + 1 : Nat) : Int) = (L : Int) + 1 := by omega
    rw [e, sW_step wk (by omega), sW_cnt wk f L]
    rfl
theorem sW_short (wk : List Bool) (f : Int) {L : Nat} : ∀ d, L + d ≤ 7 → sW wk f L (L + d) = sW wk f L L
  | 0, _ => rfl
  | d + 1, h => by
    rw [← Nat.add_assoc]
    simp only [sW]
    rw [sW_short wk f d (by omega), tW_zero (by omega) (by omega) (by omega), Int.add_zero]
theorem sW_min (wk : List Bool) (f : Int) (L : Nat) : sW wk f L (min 7 L) = sW wk f L 7 := by
  by_cases h : L ≤ 7
  · rw [Nat.min_eq_right h]
    have := sW_short wk f (L := L) (7 - L) (by omega)
    rw [show L + (7 - L) = 7 by omega] at this
    exact this.symm
  · rw [Nat.min_eq_left (by omega)]
theorem hasI_snoc (l : List Int) (x n : Int) : hasI (l ++ [x]) n = (hasI l n || decide (n = x)) := by simp [hasI]
theorem hasI_iff {l : List Int} {n : Int} : hasI l n = true ↔ n ∈ l := by simp [hasI]
theorem cnt_snoc (q : Int → Bool) (l : List Int) (x f : Int) : ∀ L : Nat, cnt (fun n => q n && hasI (l ++ [x]) n) f L = cnt (fun n => q n && hasI l n) f L + bi (decide (f ≤ x ∧ x < f + L) && (q x && !hasI l x))
  | 0 => by rw [decide_eq_false (by omega)]; rfl
  | L + 1 => by
    simp only [cnt]
    rw [cnt_snoc q l x f L, hasI_snoc]
    by_cases hx : f + L = x
    · subst hx
      rw [decide_eq_false (show ¬(f ≤ f + L ∧ f + L < f + L) by omega), decide_eq_true (show f ≤ f + L ∧ f + L < f + ((L + 1 : Nat) : Int) by omega), decide_eq_true rfl]
      generalize q (f + L) = a
      generalize hasI l (f + L) = b
      cases a <;> cases b <;> simp [bi]
    · have h2 : decide (f ≤ x ∧ x < f + ((L + 1 : Nat) : Int)) = decide (f ≤ x ∧ x < f + (L : Int)) := by
        rw [decide_eq_decide]; omega
      rw [h2, decide_eq_false hx, Bool.or_false]
      omega
theorem cnt_nil (q : Int → Bool) (f : Int) (L : Nat) : cnt (fun n => q n && hasI [] n) f L = 0 := cnt_none (fun i hi => by simp [hasI])
theorem cnt_mem {q : Int → Bool} {l l' : List Int} {f : Int} {L : Nat} (h : ∀ n, n ∈ l ↔ n ∈ l') : cnt (fun n => q n && hasI l n) f L = cnt (fun n => q n && hasI l' n) f L :=
  cnt_congr fun i _ => by
    have : hasI l (f + i) = hasI l' (f + i) := by rw [Bool.eq_iff_iff, hasI_iff, hasI_iff]; exact h _
    rw [this]
/-- The open days from one day to another. -/
def cntP (wk : List Bool) (ds : List Int) (a b : Int) : Int := cnt (openP wk ds) (max a (-719162)) (min b 2932897 - max a (-719162)).toNat
theorem cnt_open {wk : List Bool} {ds : List Int} {f : Int} {L : Nat} (h0 : -719162 ≤ f) (h1 : f + L ≤ 2932897) :
    sW wk f L 7 - cnt (fun n => wkOpen wk n && hasI ds n) f L = cnt (openP wk ds) f L := by
  rw [sW_cnt, cnt_sub]
  refine cnt_congr fun i hi => ?_
  unfold openP wkOpen
  have : okDay (f + i) := ⟨by omega, by omega⟩
  rw [decide_eq_true this, Bool.true_and]
/-! ### slices.Compact behind slices.Sort -/
theorem comp_inv {d : Array Int} (hs : ∀ i j, i ≤ j → j < d.size → d[i]! ≤ d[j]!) : ∀ m, m ≤ d.size →
    (∀ x, x ∈ Lib.compactUpTo d m ↔ ∃ j, j < m ∧ d[j]! = x) ∧ (Lib.compactUpTo d m).Pairwise (· < ·)
  | 0, _ => by simp [Lib.compactUpTo]
  | m + 1, h => by
    obtain ⟨ih1, ih2⟩ := comp_inv hs m (by omega)
    rw [Lib.compactUpTo_succ]
    by_cases hk : Lib.keeps d m = true
    · rw [if_pos hk]
      refine ⟨fun x => ?_, ?_⟩
      · rw [List.mem_append, ih1, List.mem_singleton]
        constructor
        · rintro (⟨j, hj, e⟩ | rfl)
          · exact ⟨j, by omega, e⟩
          · exact ⟨m, by omega, rfl⟩
        · rintro ⟨j, hj, rfl⟩
          rcases Nat.lt_succ_iff_lt_or_eq.1 hj with h | rfl
          · exact .inl ⟨j, h, rfl⟩
          · exact .inr rfl
      · rw [List.pairwise_append]
        refine ⟨ih2, by simp, fun x hx y hy => ?_⟩
        rw [List.mem_singleton] at hy
        subst hy
        obtain ⟨j, hj, rfl⟩ := (ih1 x).1 hx
        unfold Lib.keeps at hk
        have hk := of_decide_eq_true hk
        have h1 := hs j (m - 1) (by omega) (by omega)
        have h2 := hs (m - 1) m (by omega) (by omega)
        rcases hk with rfl | hk
        · omega
        · omega
    · rw [if_neg hk, List.append_nil]
      refine ⟨fun x => ?_, ih2⟩
      rw [ih1]
      constructor
      · rintro ⟨j, hj, e⟩; exact ⟨j, by omega, e⟩
      · rintro ⟨j, hj, rfl⟩
        rcases Nat.lt_succ_iff_lt_or_eq.1 hj with h | rfl
        · exact ⟨j, h, rfl⟩
        · unfold Lib.keeps at hk
          have hk := of_decide_eq_false (Bool.eq_false_iff.2 hk)
          have h0 : ¬ j = 0 := fun e => hk (.inl e)
          have h1 : d[j]! = d[j - 1]! := Decidable.byContradiction fun e => hk (.inr e)
          exact ⟨j - 1, by omega, h1.symm⟩
def srt (zs : List Int) : List Int := zs.mergeSort fun x y => decide (x ≤ y)
theorem srt_len (zs : List Int) : (srt zs).length = zs.length := List.length_mergeSort _
theorem srt_mem {zs : List Int} {x : Int} : x ∈ srt zs ↔ x ∈ zs := by unfold srt; exact List.mem_mergeSort
theorem srt_sorted (zs : List Int) : ∀ i j, i ≤ j → j < (srt zs).toArray.size → (srt zs).toArray[i]! ≤ (srt zs).toArray[j]! := fun i j hij hj => by
  have hp := List.pairwise_mergeSort (le := fun x y : Int => decide (x ≤ y)) (fun a b c h1 h2 => by simp only [decide_eq_true_eq] at *; omega) (fun a b => by simp; omega) zs
  have hj' : j < (srt zs).length := by simpa using hj
  rw [getElem!_pos _ i (by simp; omega), getElem!_pos _ j hj]
  rcases Nat.lt_or_eq_of_le hij with h | rfl
  · have := List.pairwise_iff_getElem.1 hp i j (by show i < (srt zs).length; omega) hj' h
    exact of_decide_eq_true this
  · exact Int.le_refl _
def comp (zs : List Int) : List Int := Lib.compact (srt zs)
theorem comp_mem {zs : List Int} {x : Int} : x ∈ comp zs ↔ x ∈ zs := by
  have h := (comp_inv (srt_sorted zs) (srt zs).length (by simp)).1 x
  unfold comp Lib.compact
  rw [h, ← srt_mem]
  constructor
  · rintro ⟨j, hj, rfl⟩
    rw [getElem!_pos _ j (by simpa using hj)]
    simp
  · intro hx
    obtain ⟨j, hj, e⟩ := List.mem_iff_getElem.1 hx
    exact ⟨j, hj, by rw [getElem!_pos _ j (by simpa using hj)]; simpa using e⟩
theorem comp_new {zs : List Int} {k : Nat} (h : k < (comp zs).length) : hasI ((comp zs).take k) (comp zs)[k] = false := by
  have hp := (comp_inv (srt_sorted zs) (srt zs).length (by simp)).2
  rw [Bool.eq_false_iff, ne_eq, hasI_iff]
  intro hm
  obtain ⟨j, hj, e⟩ := List.mem_iff_getElem.1 hm
  rw [List.getElem_take] at e
  have hj' : j < k := by simp at hj; omega
  have hp' : (comp zs).Pairwise (· < ·) := hp
  have := List.pairwise_iff_getElem.1 hp' j k (by omega) h hj'
  omega
end Go.PK

/- Of the proofs of YtffdbbcmibamjaaDoor; see NOTES.md. -/
/-! max, min, shifts, bits. -/
namespace Go.PK
open Go Go.RowKit
set_option linter.unusedVariables false
section
variable {P : Program} {n : Nat} {l : List (Nat × Value)} {own : List (Nat × Obj)} {ro : List Snap} {ty : TypeId} {x y : Operand} {t t' : TypeId} {k k' : IntKind} {a b : Int}
theorem v_max {tys : Array TypeId} (hx : ev l x = some (.int k a)) (hy : ev l y = some (.int k' b)) : OpV P n l own ro (.call ⟨.builtin .max, #[x, y], tys⟩) ty (.int k (max a b)) := by
  intro A w o ha _ ho _
  have e : (if a < b then b else a) = max a b := by omega
  simp [execOp, ho, resolve, invoke, builtin, ha.eval hx, ha.eval hy, Builtin.max_, Builtin.max2, e]
theorem v_min {tys : Array TypeId} (hx : ev l x = some (.int k a)) (hy : ev l y = some (.int k' b)) : OpV P n l own ro (.call ⟨.builtin .min, #[x, y], tys⟩) ty (.int k (min a b)) := by
  intro A w o ha _ ho _
  have e : (if b < a then b else a) = min a b := by omega
  simp [execOp, ho, resolve, invoke, builtin, ha.eval hx, ha.eval hy, Builtin.min_, Builtin.min2, e]
theorem v_shr (hx : ev l x = some (.int k a)) (hy : ev l y = some (.int k' b)) (h0 : 0 ≤ b) {c : Int} (hc : a / 2 ^ min b.toNat k.bits = c) : OpV P n l own ro (.binOp .shr t x y t') ty (.int k c) := by
  intro A w o ha _ ho _
  have hp : (0 : Int) ≤ 2 ^ min b.toNat k.bits := Int.pow_nonneg (by decide)
  have h1 : ¬ b < 0 := by omega
  simp [execOp, ho, ha.eval hx, ha.eval hy, eqGuard, binOp, Op.shift, h1, Int.fdiv_eq_ediv_of_nonneg _ hp, hc]
theorem v_shl (hx : ev l x = some (.int k a)) (hy : ev l y = some (.int k' b)) (h0 : 0 ≤ b) {c : Int} (hc : k.wrap (a * 2 ^ min b.toNat k.bits) = c) : OpV P n l own ro (.binOp .shl t x y t') ty (.int k c) := by
  intro A w o ha _ ho _
  have h1 : ¬ b < 0 := by omega
  simp [execOp, ho, ha.eval hx, ha.eval hy, eqGuard, binOp, Op.shift, h1, hc]
def andK (k : IntKind) (a b : Int) : Int := k.wrap (BitVec.ofInt k.bits a &&& BitVec.ofInt k.bits b).toNat
def orK (k : IntKind) (a b : Int) : Int := k.wrap (BitVec.ofInt k.bits a ||| BitVec.ofInt k.bits b).toNat
def xorK (k : IntKind) (a b : Int) : Int := k.wrap (BitVec.ofInt k.bits a ^^^ BitVec.ofInt k.bits b).toNat
def andNotK (k : IntKind) (a b : Int) : Int := k.wrap (BitVec.ofInt k.bits a &&& ~~~BitVec.ofInt k.bits b).toNat
theorem v_andK (hx : ev l x = some (.int k a)) (hy : ev l y = some (.int k b)) : OpV P n l own ro (.binOp .and t x y t') ty (.int k (andK k a b)) := by
  intro A w o ha _ ho _
  simp [execOp, ho, ha.eval hx, ha.eval hy, eqGuard, binOp, Op.intBits, andK]
theorem v_orK (hx : ev l x = some (.int k a)) (hy : ev l y = some (.int k b)) : OpV P n l own ro (.binOp .or t x y t') ty (.int k (orK k a b)) := by
  intro A w o ha _ ho _
  simp [execOp, ho, ha.eval hx, ha.eval hy, eqGuard, binOp, Op.intBits, orK]
theorem v_xorK (hx : ev l x = some (.int k a)) (hy : ev l y = some (.int k b)) : OpV P n l own ro (.binOp .xor t x y t') ty (.int k (xorK k a b)) := by
  intro A w o ha _ ho _
  simp [execOp, ho, ha.eval hx, ha.eval hy, eqGuard, binOp, Op.intBits, xorK]
theorem v_andNotK (hx : ev l x = some (.int k a)) (hy : ev l y = some (.int k b)) : OpV P n l own ro (.binOp .andNot t x y t') ty (.int k (andNotK k a b)) := by
  intro A w o ha _ ho _
  simp [execOp, ho, ha.eval hx, ha.eval hy, eqGuard, binOp, Op.intBits, andNotK]
theorem v_len_arr {e : TypeId} {N : Nat} {cs : Array Value} (ht : P.underlying t = some (.array N e)) (hx : ev l x = some (.agg cs)) : OpV P n l own ro (.call ⟨.builtin .len, #[x], #[t]⟩) ty (.int .i64 N) := by
  intro a w o ha _ ho _
  simp [execOp, ho, resolve, invoke, builtin, ha.eval hx, Builtin.len_, run_underlying ht, goInt]
end
end Go.PK

/- Of the proofs of YtffdbbcmibamjaaDoor; see NOTES.md. -/
/-! Types that are put together: records, arrays, and what the arguments of a law read as. -/
namespace Go.PK
open Go Go.RowKit
set_option linter.unusedVariables false
def tyNil : Ty Unit where
  size := 0
  rd := fun _ _ cs _ => cs = []
  len := fun h => by rw [h]; rfl
  keep := fun h _ => h
def tyCons {α β : Type} (T : Ty α) (U : Ty β) : Ty (α × β) where
  size := T.size + U.size
  rd := fun D w cs x => ∃ a b, cs = a ++ b ∧ T.rd D w a x.1 ∧ U.rd D w b x.2
  len := fun ⟨a, b, h, h1, h2⟩ => by rw [h, List.length_append, T.len h1, U.len h2]
  keep := fun ⟨a, b, h, h1, h2⟩ k => ⟨a, b, h, T.keep h1 k, U.keep h2 k⟩
def Ty.map {α β : Type} (T : Ty α) (f : α → β) : Ty β where
  size := T.size
  rd := fun D w cs y => ∃ x, T.rd D w cs x ∧ f x = y
  len := fun ⟨x, h, _⟩ => T.len h
  keep := fun ⟨x, h, e⟩ k => ⟨x, T.keep h k, e⟩
def tyBool : Ty Bool where
  size := 1
  rd := fun _ _ cs x => cs = [.bool x]
  len := fun h => by rw [h]; rfl
  keep := fun h _ => h
def tyK (k : IntKind) : Ty Int where
  size := 1
  rd := fun _ _ cs x => cs = [.int k x] ∧ k.min ≤ x ∧ x ≤ k.max
  len := fun h => by rw [h.1]; rfl
  keep := fun h _ => h
def tyArr {α : Type} (T : Ty α) : Nat → Ty (List α)
  | 0 => tyNil.map fun _ => []
  | n + 1 => (tyCons T (tyArr T n)).map fun p => p.1 :: p.2
theorem tyArr_size {α : Type} (T : Ty α) : ∀ n, (tyArr T n).size = n * T.size
  | 0 => by rw [Nat.zero_mul]; rfl
  | n + 1 => by
    show T.size + (tyArr T n).size = _
    rw [tyArr_size T n, Nat.succ_mul, Nat.add_comm]
theorem arr_bool {D : Nat → Prop} {w : World} : ∀ {n : Nat} {cs : List Value} {xs : List Bool}, (tyArr tyBool n).rd D w cs xs → cs = xs.map Value.bool ∧ xs.length = n
  | 0, cs, xs, h => by
    obtain ⟨x, h1, h2⟩ := h
    subst h2
    exact ⟨h1, rfl⟩
  | n + 1, cs, xs, h => by
    obtain ⟨⟨a, as⟩, ⟨ca, cb, h0, h1, h2⟩, h3⟩ := h
    obtain ⟨h4, h5⟩ := arr_bool h2
    have h1 : ca = [.bool a] := h1
    subst h3
    dsimp only at h4 h5
    exact ⟨by rw [h0, h1, h4]; rfl, by simp [h5]⟩
theorem arr_k {k : IntKind} {D : Nat → Prop} {w : World} : ∀ {n : Nat} {cs : List Value} {xs : List Int}, (tyArr (tyK k) n).rd D w cs xs → cs = xs.map (Value.int k) ∧ xs.length = n ∧ ∀ x ∈ xs, k.min ≤ x ∧ x ≤ k.max
  | 0, cs, xs, h => by
    obtain ⟨x, h1, h2⟩ := h
    subst h2
    exact ⟨h1, rfl, by simp⟩
  | n + 1, cs, xs, h => by
    obtain ⟨⟨a, as⟩, ⟨ca, cb, h0, h1, h2⟩, h3⟩ := h
    obtain ⟨h4, h5, h6⟩ := arr_k h2
    obtain ⟨h1, hb⟩ : ca = [.int k a] ∧ k.min ≤ a ∧ a ≤ k.max := h1
    subst h3
    dsimp only at h4 h5 h6
    refine ⟨by rw [h0, h1, h4]; rfl, by simp [h5], fun x hx => ?_⟩
    rcases List.mem_cons.1 hx with rfl | hx
    · exact hb
    · exact h6 x hx
section
variable {P : Program}
theorem wf_k {k : IntKind} {n : Int} (h : (Lit.int k n).wf = true) : k.min ≤ n ∧ n ≤ k.max := by
  simpa only [Lit.wf, Bool.and_eq_true, decide_eq_true_eq] using h
theorem rdr_bool {t : TypeId} (ht : P.underlying t = some .bool) (hc : P.cellsOf t = 1) : Rdr P t tyBool :=
  ⟨hc, Nat.one_pos, fun h => by obtain ⟨b, rfl, _⟩ := DataW.trod_bool ht h; exact ⟨b, rfl⟩⟩
theorem rdr_k {t : TypeId} {k : IntKind} (ht : P.underlying t = some (.int k)) (hc : P.cellsOf t = 1) : Rdr P t (tyK k) :=
  ⟨hc, Nat.one_pos, fun h => by obtain ⟨n, rfl, _, hw⟩ := DataW.trod_int ht h; exact ⟨n, rfl, wf_k hw⟩⟩
theorem rdr_map {α β : Type} {T : Ty α} {t : TypeId} {f : α → β} (R : Rdr P t T) : Rdr P t (T.map f) :=
  ⟨R.size, R.pos, fun h => by obtain ⟨y, hy⟩ := R.rd h; exact ⟨f y, y, hy, rfl⟩⟩
theorem rdr_slice {α : Type} {T : Ty α} {t e : TypeId} (ht : P.underlying t = some (.slice e)) (hc : P.cellsOf t = 1) (R : Rdr P e T) : Rdr P t (tySlice T) :=
  ⟨hc, Nat.one_pos, fun h => by obtain ⟨v, xs, e1, h1, _⟩ := trod_rd ht R h; exact ⟨xs, v, e1, h1⟩⟩
theorem arr_of {α : Type} {T : Ty α} {w : World} : ∀ (n : Nat) (cs : List Value), cs.length = n * T.size → (∀ i, i < n → ∃ y, T.rd (fun _ => True) w ((cs.drop (i * T.size)).take T.size) y) → ∃ ys, (tyArr T n).rd (fun _ => True) w cs ys
  | 0, cs, hl, _ => ⟨[], (), List.eq_nil_of_length_eq_zero (by rw [hl, Nat.zero_mul]), rfl⟩
  | n + 1, cs, hl, h => by
    obtain ⟨y, hy⟩ := h 0 (Nat.succ_pos n)
    rw [Nat.zero_mul, List.drop_zero] at hy
    obtain ⟨ys, hys⟩ := arr_of (T := T) (w := w) n (cs.drop T.size) (by rw [List.length_drop, hl, Nat.succ_mul]; omega) (fun i hi => by
      obtain ⟨z, hz⟩ := h (i + 1) (by omega)
      rw [Nat.succ_mul, Nat.add_comm, ← List.drop_drop] at hz
      exact ⟨z, hz⟩)
    exact ⟨y :: ys, (y, ys), ⟨_, _, (List.take_append_drop T.size cs).symm, hy, hys⟩, rfl⟩
theorem rdr_arr {α : Type} {T : Ty α} {t e : TypeId} {n : Nat} (ht : P.underlying t = some (.array n e)) (hc : P.cellsOf t = n * T.size) (hn : 0 < n) (R : Rdr P e T) : Rdr P t (tyArr T n) :=
  ⟨by rw [tyArr_size]; exact hc, by rw [tyArr_size]; exact Nat.mul_pos hn R.pos, @fun H enc w base sp held fuel cs x h => by
    obtain ⟨xs, m, _, _, hl, hx, hh⟩ := DataW.trod_array ht h
    refine arr_of n cs (by rw [hl, hc]) fun i hi => ?_
    have h1 := hh i hi
    rw [List.getElem?_eq_getElem (by omega), R.size] at h1
    exact R.rd h1⟩
inductive Flds (P : Program) : Nat → List Field → (β : Type) → Ty β → Prop where
  | nil (off : Nat) : Flds P off [] Unit tyNil
  | cons {α β : Type} {T : Ty α} {U : Ty β} {off : Nat} {f : Field} {fs : List Field} (ho : f.offset = off) (R : Rdr P f.type T) (h : Flds P (off + T.size) fs β U) : Flds P off (f :: fs) (α × β) (tyCons T U)
theorem flds_of {H : Type} {enc : TypeId × Value → H} {w : World} {base m : Nat} {sp : Nat → Bool} {held : Bool} {cs : List Value} {off : Nat} {fs : List Field} {β : Type} {U : Ty β} (F : Flds P off fs β U) :
    (∀ f ∈ fs, ∃ x, DataW.trod enc P w base sp held m f.type ((cs.drop f.offset).take (P.cellsOf f.type)) = some x) → cs.length = off + U.size → ∃ y, U.rd (fun _ => True) w (cs.drop off) y := by
  induction F with
  | nil off => exact fun _ hl => ⟨(), List.drop_eq_nil_of_le (by rw [hl]; exact Nat.le_refl _)⟩
  | @cons α β T U off f fs ho R F ih =>
    intro h hl
    have hl : cs.length = off + (T.size + U.size) := hl
    obtain ⟨y, hy⟩ := ih (fun g hg => h g (List.mem_cons_of_mem _ hg)) (by omega)
    obtain ⟨x, hx⟩ := h f (List.mem_cons_self ..)
    rw [ho, R.size] at hx
    obtain ⟨z, hz⟩ := R.rd hx
    refine ⟨(z, y), _, _, (List.take_append_drop T.size _).symm, hz, ?_⟩
    rw [List.drop_drop]
    exact hy
theorem rdr_struct {t : TypeId} {fs : Array Field} {β : Type} {U : Ty β} (ht : P.underlying t = some (.struct fs)) (hc : P.cellsOf t = U.size) (hp : 0 < U.size) (F : Flds P 0 fs.toList β U) : Rdr P t U :=
  ⟨hc, hp, @fun H enc w base sp held fuel cs x h => by
    obtain ⟨xs, m, _, _, hl, hx, hh⟩ := DataW.trod_struct ht h
    have := flds_of (enc := enc) (base := base) (sp := sp) (held := held) (m := m) (cs := cs) (w := w) F (fun f hf => by
      obtain ⟨i, hi, rfl⟩ := List.mem_iff_getElem.1 hf
      have h1 := hh i fs.toList[i] (by simp)
      have hi' : i < fs.size := by simpa using hi
      rw [List.getElem?_eq_getElem (by omega)] at h1
      exact ⟨_, h1⟩) (by rw [hl, hc]; omega)
    simpa using this⟩
variable {H : Type} {enc : TypeId × Value → H} {W : World} {base b0 : Nat} {sp : Nat → Bool} {held : Bool} {r : Reach} {t e : TypeId} {v : Value} {d : DataW H} {ps : List MemPlace}
theorem top_rd {α : Type} {T : Ty α} (R : Rdr P t T) (h : DataW.Trod enc P W base sp held t v d ps) : ∃ y, T.rd (fun _ => True) W v.cells.toList y := by
  obtain ⟨n, hn⟩ := h
  exact R.rd hn
theorem top_agg {α : Type} {T : Ty α} {td : TypeDesc} (ht : P.underlying t = some td) (hd : aggT td = true) (R : Rdr P t T) (hval : Value.okWide P W r b0 t v) (h : DataW.Trod enc P W base sp held t v d ps) : ∃ cs y, v = .agg cs ∧ T.rd (fun _ => True) W cs.toList y := by
  obtain ⟨y, hy⟩ := top_rd R h
  have hv : ∃ cs, v = .agg cs := by
    unfold Value.okWide at hval
    rw [ht] at hval
    cases td <;> simp_all [aggT]
    all_goals (obtain ⟨cs, h, _⟩ := hval; exact ⟨cs, h⟩)
  obtain ⟨cs, rfl⟩ := hv
  exact ⟨cs, y, rfl, hy⟩
theorem top_k {k : IntKind} (ht : P.underlying t = some (.int k)) (hval : Value.okWide P W r b0 t v) (h : DataW.Trod enc P W base sp held t v d ps) : ∃ n, v = .int k n ∧ k.min ≤ n ∧ n ≤ k.max := by
  obtain ⟨m, hm⟩ := h
  obtain ⟨n, hc, _, hw⟩ := DataW.trod_int ht hm
  refine ⟨n, ?_, wf_k hw⟩
  cases v <;> simp_all [Value.okWide, Cell.okWide, Cell.ok, Value.cells]
theorem top_bool (ht : P.underlying t = some .bool) (hval : Value.okWide P W r b0 t v) (h : DataW.Trod enc P W base sp held t v d ps) : ∃ b, v = .bool b := by
  obtain ⟨m, hm⟩ := h
  obtain ⟨n, hc, _⟩ := DataW.trod_bool ht hm
  refine ⟨n, ?_⟩
  cases v <;> simp_all [Value.okWide, Cell.okWide, Cell.ok, Value.cells]
end
end Go.PK

/- Of the proofs of YtffdbbcmibamjaaDoor; see NOTES.md. -/
/-! Rows of integers that the call has made, and bytes that were given. -/
namespace Go.PK
open Go Go.RowKit
set_option linter.unusedVariables false
theorem rowI_T {D : Nat → Prop} {ws : World} {r : RowS} {ds : List Int} {n : Nat} (hr : rowOK 1 r n (ds.map (Value.int .i64))) (hn : n = ds.length) (hin : ∀ d ∈ ds, in64 d) : RowT tyI D ws r ds := by
  subst hn
  refine ⟨ds.map fun d => [.int .i64 d], by simp, ?_, fun j h1 h2 => ?_⟩
  · have e : (ds.map fun d => [Value.int .i64 d]).flatten = ds.map (Value.int .i64) := by
      clear hr hin
      induction ds with
      | nil => rfl
      | cons x xs ih => simp [ih]
    rw [e]; exact hr
  · rw [List.getElem_map]
    exact ⟨rfl, hin _ (List.getElem_mem h2)⟩
theorem rowI_rd {D : Nat → Prop} {w : World} {own : List (Nat × Obj)} {ro : List Snap} {e : TypeId} {r : RowS} {ds : List Int} {n : Nat} (hr : rowOK 1 r n (ds.map (Value.int .i64))) (hn : n = ds.length) (hi : ∀ d ∈ ds, in64 d)
    (hm : Mem w own ro) (hin : ∀ p ∈ rowO e r, p ∈ own) (hD : ∀ p ∈ rowO e r, D p.1) : sliceRd tyI D w (rowV r n) ds :=
  (rowI_T (D := fun _ => False) (ws := w) hr hn hi).rd hm hin (fun _ h => h.elim) hD hn
theorem k_at {kk : IntKind} {D : Nat → Prop} {w : World} {A : Option Addr} {l c : Nat} {xs : List Int} (h : sliceRd (tyK kk) D w (.slice A l c) xs) {k : Nat} (hk : k < xs.length) :
    ∃ b off, A = some ⟨b, off, none⟩ ∧ D b ∧ w.cell? ⟨b, off + k, none⟩ = some (.int kk xs[k]) ∧ kk.min ≤ xs[k] ∧ xs[k] ≤ kk.max := by
  obtain ⟨A', c', e, h1, h2, h3⟩ := h
  injection e with e1 e2 e3
  obtain ⟨b, off, hA, hD, hb, hc⟩ := h3 (by omega)
  obtain ⟨cs, hcs, rfl, hok⟩ := hc k hk
  have := hcs 0 (by simp)
  exact ⟨b, off, e1.trans hA, hD, by simpa [tyK] using this, hok⟩
theorem u8_rng {x : Int} (h : IntKind.u8.min ≤ x ∧ x ≤ IntKind.u8.max) : 0 ≤ x ∧ x ≤ 255 := by
  have h1 : IntKind.u8.min = 0 := by decide
  have h2 : IntKind.u8.max = 255 := by decide
  omega
theorem u16_rng {x : Int} (h : IntKind.u16.min ≤ x ∧ x ≤ IntKind.u16.max) : 0 ≤ x ∧ x ≤ 65535 := by
  have h1 : IntKind.u16.min = 0 := by decide
  have h2 : IntKind.u16.max = 65535 := by decide
  omega
theorem calC_len {wk : List Bool} {v : Value} : (calC wk v).length = wk.length + 1 := by simp [calC]
theorem calC_set {wk : List Bool} {v : Value} {k : Nat} {b : Bool} (h : k < wk.length) : List.take k (calC wk v) ++ (Value.bool b).cells.toList ++ List.drop (k + 1) (calC wk v) = calC (wk.set k b) v := by
  show List.take k (calC wk v) ++ [Value.bool b] ++ List.drop (k + 1) (calC wk v) = _
  have e : (calC wk v).set k (.bool b) = calC (wk.set k b) v := by
    unfold calC
    rw [List.set_append_left _ _ (by simpa using h), List.map_set]
  rw [← e, List.set_eq_take_append_cons_drop, if_pos (by rw [calC_len]; omega)]
  simp
theorem calC_put {wk : List Bool} {v : Value} {r : RowS} {n : Nat} (h : wk.length = 7) : List.take 7 (calC wk v) ++ (rowV r n).cells.toList ++ List.drop (7 + 1) (calC wk v) = calC wk (rowV r n) := by
  show List.take 7 (calC wk v) ++ [rowV r n] ++ List.drop (7 + 1) (calC wk v) = _
  unfold calC
  rw [List.take_append_of_le_length (by simp [h]), List.take_of_length_le (by simp [h]), List.drop_eq_nil_of_le (by simp [h]), List.append_nil]
def bitU (u : Int) (k : Nat) : Bool := decide (andK .u8 (u / 2 ^ k) 1 = 1)
/-- The closed weekdays by bits: the first k of them. -/
def wkP (u : Int) (k : Nat) : List Bool := (List.range 7).map fun j => decide (j < k) && bitU u j
theorem wkP_len (u : Int) (k : Nat) : (wkP u k).length = 7 := by simp [wkP]
theorem wkP_set {u : Int} {k : Nat} (h : k < 7) : (wkP u k).set k (bitU u k) = wkP u (k + 1) := by
  apply List.ext_getElem (by simp [wkP])
  intro j h1 h2
  have hj : j < 7 := by simpa [wkP] using h2
  rw [List.getElem_set]
  simp only [wkP, List.getElem_map, List.getElem_range]
  split
  · rename_i e; subst e; simp
  · rename_i e
    have : decide (j < k + 1) = decide (j < k) := by rw [decide_eq_decide]; omega
    rw [this]
def wkOf (u : Int) : List Bool := wkP u 7
theorem wkOf_len (u : Int) : (wkOf u).length = 7 := wkP_len u 7
def madeD (near : Int) (l : List Int) : List Int := (l.take 20).map fun x => near.tmod 3000000 + x % 60 - 10
theorem madeD_len (near : Int) (l : List Int) : (madeD near l).length ≤ 20 := by simp [madeD]; omega
theorem madeD_in (near : Int) (l : List Int) : ∀ d ∈ madeD near l, -3000010 ≤ d ∧ d ≤ 3000050 := fun d hd => by
  obtain ⟨x, _, rfl⟩ := List.mem_map.1 hd
  have := tmod_bd near 3000000 (by decide)
  omega
theorem madeD_snoc {near : Int} {l : List Int} {k : Nat} (hk : k < l.length) (h : k < 20) : madeD near (l.take (k + 1)) = madeD near (l.take k) ++ [near.tmod 3000000 + l[k] % 60 - 10] := by
  unfold madeD
  rw [List.take_take, List.take_take, Nat.min_eq_right (by omega), Nat.min_eq_right (by omega), ← List.take_append_getElem hk, List.map_append]
  rfl
theorem madeD_all {near : Int} {l : List Int} {k : Nat} (h : k = l.length ∨ k = 20) : madeD near (l.take k) = madeD near l := by
  unfold madeD
  rw [List.take_take]
  rcases h with rfl | rfl
  · by_cases h : l.length ≤ 20
    · rw [Nat.min_eq_right h, List.take_of_length_le (Nat.le_refl _), List.take_of_length_le h]
    · rw [Nat.min_eq_left (by omega)]
  · rfl
end Go.PK

/- Of the proofs of YtffdbbcmibamjaaDoor; see NOTES.md. -/
/-! Closed days in order: what 'Sorted' makes. -/
namespace Go.PK
open Go Go.RowKit
set_option linter.unusedVariables false
def stp1 (d : Int) (s : List Int × Bool) (e : Int) : List Int × Bool :=
  if d ≤ e ∧ s.2 = false then (if e = d then (s.1 ++ [d], true) else (s.1 ++ [d] ++ [e], true)) else (if e = d then s else (s.1 ++ [e], s.2))
def stp (d : Int) (zs : List Int) : List Int × Bool := zs.foldl (stp1 d) ([], false)
theorem stp_snoc (d : Int) (zs : List Int) (e : Int) : stp d (zs ++ [e]) = stp1 d (stp d zs) e := by unfold stp; rw [List.foldl_append]; rfl
theorem stp_take {d : Int} {zs : List Int} {j : Nat} (h : j < zs.length) : stp d (zs.take (j + 1)) = stp1 d (stp d (zs.take j)) zs[j] := by rw [← List.take_append_getElem h, stp_snoc]
def insI (d : Int) (zs : List Int) : List Int := if (stp d zs).2 = true then (stp d zs).1 else (stp d zs).1 ++ [d]
def srtD (ds : List Int) : List Int := ds.foldl (fun acc d => if okDay d then insI d acc else acc) []
theorem srtD_take {ds : List Int} {k : Nat} (h : k < ds.length) : srtD (ds.take (k + 1)) = if okDay ds[k] then insI ds[k] (srtD (ds.take k)) else srtD (ds.take k) := by
  rw [← List.take_append_getElem h]; unfold srtD; rw [List.foldl_append]; rfl
theorem snoc_ind {P : List Int → Prop} (h0 : P []) (h1 : ∀ l x, P l → P (l ++ [x])) : ∀ l, P l := fun l => by
  have := List.reverse_reverse l
  rw [← this]
  generalize l.reverse = r
  induction r with
  | nil => exact h0
  | cons x xs ih => rw [List.reverse_cons]; exact h1 _ _ ih
theorem stp_len (d : Int) : ∀ zs, (stp d zs).1.length + (if (stp d zs).2 = true then 0 else 1) ≤ zs.length + 1 :=
  snoc_ind (by simp [stp]) fun l x ih => by
    rw [stp_snoc]
    unfold stp1
    cases h : (stp d l).2
    · rw [h] at ih
      simp only [Bool.false_eq_true, if_false] at ih
      split
      · split <;> simp <;> omega
      · split
        · simp [h]; omega
        · simp; omega
    · rw [h] at ih
      simp only [if_true] at ih
      rw [if_neg (by simp)]
      split
      · simp; omega
      · simp; omega
theorem insI_len (d : Int) (zs : List Int) : (insI d zs).length ≤ zs.length + 1 := by
  have := stp_len d zs
  unfold insI
  split
  · rename_i h; rw [if_pos h] at this; omega
  · rename_i h; rw [if_neg h] at this; simp; omega
theorem srtD_len (ds : List Int) : (srtD ds).length ≤ ds.length := by
  refine snoc_ind (P := fun ds => (srtD ds).length ≤ ds.length) (by simp [srtD]) (fun l x ih => ?_) ds
  have e : srtD (l ++ [x]) = if okDay x then insI x (srtD l) else srtD l := by unfold srtD; rw [List.foldl_append]; rfl
  rw [e]
  have := insI_len x (srtD l)
  split <;> simp <;> omega
theorem pw_snoc {l : List Int} {x : Int} (h : l.Pairwise (· < ·)) (hx : ∀ y ∈ l, y < x) : (l ++ [x]).Pairwise (· < ·) := by
  rw [List.pairwise_append]
  exact ⟨h, by simp, fun a ha b hb => by rw [List.mem_singleton] at hb; subst hb; exact hx a ha⟩
theorem stp_is (d : Int) : ∀ zs : List Int, zs.Pairwise (· < ·) →
    ((stp d zs).2 = false → (stp d zs).1 = zs ∧ ∀ x ∈ zs, x < d) ∧ ((stp d zs).2 = true → (stp d zs).1.Pairwise (· < ·) ∧ (∀ x, x ∈ (stp d zs).1 ↔ x = d ∨ x ∈ zs) ∧ ∃ x ∈ zs, d ≤ x) :=
  snoc_ind (fun _ => ⟨fun _ => ⟨rfl, by simp⟩, fun h => by simp [stp] at h⟩) fun l e ih hp => by
    rw [List.pairwise_append] at hp
    obtain ⟨hp1, _, hp2⟩ := hp
    have hle : ∀ x ∈ l, x < e := fun x hx => hp2 x hx e (by simp)
    obtain ⟨i1, i2⟩ := ih hp1
    rw [stp_snoc]
    unfold stp1
    cases h : (stp d l).2
    · obtain ⟨e1, e2⟩ := i1 h
      rw [e1]
      by_cases hd : d ≤ e
      · rw [if_pos ⟨hd, rfl⟩]
        by_cases he : e = d
        · subst he
          rw [if_pos rfl]
          refine ⟨fun h => by simp at h, fun _ => ⟨pw_snoc hp1 e2, fun x => ?_, e, by simp, Int.le_refl _⟩⟩
          simp only [List.mem_append, List.mem_singleton]
          constructor
          · rintro (h | h)
            · exact .inr (.inl h)
            · exact .inl h
          · rintro (h | h | h)
            · exact .inr h
            · exact .inl h
            · exact .inr h
        · rw [if_neg he]
          refine ⟨fun h => by simp at h, fun _ => ⟨pw_snoc (pw_snoc hp1 e2) (fun y hy => ?_), fun x => ?_, e, by simp, hd⟩⟩
          · rcases List.mem_append.1 hy with hy | hy
            · exact hle y hy
            · rw [List.mem_singleton] at hy; omega
          · simp only [List.mem_append, List.mem_singleton]
            constructor
            · rintro ((h | h) | h)
              · exact .inr (.inl h)
              · exact .inl h
              · exact .inr (.inr h)
            · rintro (h | h | h)
              · exact .inl (.inr h)
              · exact .inl (.inl h)
              · exact .inr h
      · rw [if_neg (fun h => hd h.1), if_neg (by omega)]
        refine ⟨fun _ => ⟨rfl, fun x hx => ?_⟩, fun h2 => by simp at h2⟩
        rcases List.mem_append.1 hx with hx | hx
        · exact e2 x hx
        · rw [List.mem_singleton] at hx; omega
    · obtain ⟨e1, e2, y, hy, hdy⟩ := i2 h
      have hye := hle y hy
      rw [if_neg (by simp), if_neg (by omega)]
      refine ⟨fun h2 => by simp at h2, fun _ => ⟨pw_snoc e1 (fun x hx => ?_), fun x => ?_, y, by simp [hy], hdy⟩⟩
      · rcases (e2 x).1 hx with rfl | hx
        · omega
        · exact hle x hx
      · simp only [List.mem_append, List.mem_singleton, e2, or_assoc]
theorem insI_is (d : Int) {zs : List Int} (hp : zs.Pairwise (· < ·)) : (insI d zs).Pairwise (· < ·) ∧ ∀ x, x ∈ insI d zs ↔ x = d ∨ x ∈ zs := by
  obtain ⟨h1, h2⟩ := stp_is d zs hp
  unfold insI
  split
  · rename_i h; obtain ⟨a, b, _⟩ := h2 h; exact ⟨a, b⟩
  · rename_i h
    obtain ⟨a, b⟩ := h1 (by simpa using h)
    rw [a]
    exact ⟨pw_snoc hp b, fun x => by simp only [List.mem_append, List.mem_singleton]; exact Or.comm⟩
theorem srtD_is (ds : List Int) : (srtD ds).Pairwise (· < ·) ∧ ∀ x, x ∈ srtD ds ↔ okDay x ∧ x ∈ ds := by
  refine snoc_ind (P := fun ds => (srtD ds).Pairwise (· < ·) ∧ ∀ x, x ∈ srtD ds ↔ okDay x ∧ x ∈ ds) (by simp [srtD]) (fun l x ⟨i1, i2⟩ => ?_) ds
  have e : srtD (l ++ [x]) = if okDay x then insI x (srtD l) else srtD l := by unfold srtD; rw [List.foldl_append]; rfl
  rw [e]
  split
  · rename_i hx
    obtain ⟨a, b⟩ := insI_is x i1
    refine ⟨a, fun y => ?_⟩
    rw [b, i2]
    simp only [List.mem_append, List.mem_singleton]
    constructor
    · rintro (rfl | ⟨h1, h2⟩)
      · exact ⟨hx, .inr rfl⟩
      · exact ⟨h1, .inl h2⟩
    · rintro ⟨h1, h2 | h2⟩
      · exact .inr ⟨h1, h2⟩
      · exact .inl h2
  · rename_i hx
    refine ⟨i1, fun y => ?_⟩
    rw [i2]
    simp only [List.mem_append, List.mem_singleton]
    constructor
    · rintro ⟨h1, h2⟩; exact ⟨h1, .inl h2⟩
    · rintro ⟨h1, h2 | h2⟩
      · exact ⟨h1, h2⟩
      · subst h2; exact absurd h1 hx
theorem srtD_right (ds : List Int) : rightP (srtD ds) = true := by
  obtain ⟨h1, h2⟩ := srtD_is ds
  refine right_yes fun j hj _ => ⟨((h2 _).1 (List.getElem_mem hj)).1, fun h0 => ?_⟩
  exact List.pairwise_iff_getElem.1 h1 (j - 1) j (by omega) hj (by omega)
theorem srtD_open (wk : List Bool) (ds : List Int) (n : Int) : openP wk (srtD ds) n = openP wk ds n := by
  unfold openP
  by_cases h : okDay n
  · have : hasI (srtD ds) n = hasI ds n := by
      rw [Bool.eq_iff_iff, hasI_iff, hasI_iff, (srtD_is ds).2]
      exact ⟨fun h => h.2, fun x => ⟨h, x⟩⟩
    rw [this]
  · rw [decide_eq_false h]; rfl
theorem srtD_in (ds : List Int) : ∀ d ∈ srtD ds, in64 d := fun d hd => by
  have := (((srtD_is ds).2 d).1 hd).1
  unfold okDay at this
  unfold in64; omega
end Go.PK

/- Of the proofs of YtffdbbcmibamjaaDoor; see NOTES.md. -/
/-! Counting open days: adding up. -/
namespace Go.PK
open Go Go.RowKit
set_option linter.unusedVariables false
theorem openP_no {wk : List Bool} {ds : List Int} {n : Int} (h : ¬okDay n) : openP wk ds n = false := by unfold openP; rw [decide_eq_false h]; rfl
theorem cnt_full (wk : List Bool) (ds : List Int) (a b : Int) : cnt (openP wk ds) a (b - a).toNat = cntP wk ds a b := by
  unfold cntP
  by_cases hab : b ≤ a
  · rw [show (b - a).toNat = 0 by omega, show (min b 2932897 - max a (-719162)).toNat = 0 by omega]; rfl
  · by_cases he : min b 2932897 ≤ max a (-719162)
    · rw [show (min b 2932897 - max a (-719162)).toNat = 0 by omega, cnt_none fun i hi => openP_no fun h => by unfold okDay at h; omega]; rfl
    · obtain ⟨x, hx⟩ : ∃ x : Nat, (x : Int) = max a (-719162) - a := ⟨(max a (-719162) - a).toNat, by omega⟩
      obtain ⟨y, hy⟩ : ∃ y : Nat, (y : Int) = min b 2932897 - max a (-719162) := ⟨(min b 2932897 - max a (-719162)).toNat, by omega⟩
      obtain ⟨z, hz⟩ : ∃ z : Nat, (z : Int) = b - min b 2932897 := ⟨(b - min b 2932897).toNat, by omega⟩
      rw [show (b - a).toNat = x + (y + z) by omega, cnt_add, cnt_add, cnt_none (k := x) fun i hi => openP_no fun h => by unfold okDay at h; omega,
        cnt_none (k := z) fun i hi => openP_no fun h => by unfold okDay at h; omega, show a + (x : Int) = max a (-719162) by omega, show (min b 2932897 - max a (-719162)).toNat = y by omega]
      omega
theorem cntP_add (wk : List Bool) (ds : List Int) {a m t : Int} (h1 : a ≤ m) (h2 : m ≤ t) : cntP wk ds a m + cntP wk ds m t = cntP wk ds a t := by
  rw [← cnt_full, ← cnt_full, ← cnt_full]
  obtain ⟨x, hx⟩ : ∃ x : Nat, (x : Int) = m - a := ⟨(m - a).toNat, by omega⟩
  obtain ⟨y, hy⟩ : ∃ y : Nat, (y : Int) = t - m := ⟨(t - m).toNat, by omega⟩
  rw [show (t - a).toNat = x + y by omega, cnt_add, show (m - a).toNat = x by omega, show (t - m).toNat = y by omega, show a + (x : Int) = m by omega]
theorem cntP_zero (wk : List Bool) (ds : List Int) {a b : Int} (h : b ≤ a) : cntP wk ds a b = 0 := by
  rw [← cnt_full, show (b - a).toNat = 0 by omega]; rfl
theorem cntP_rng (wk : List Bool) (ds : List Int) (a b : Int) : 0 ≤ cntP wk ds a b ∧ cntP wk ds a b ≤ 3652059 := by
  have := cnt_rng (openP wk ds) (max a (-719162)) (min b 2932897 - max a (-719162)).toNat
  unfold cntP; omega
end Go.PK

/- Of the proofs of YtffdbbcmibamjaaDoor; see NOTES.md. -/
/-! Rows of bytes: conversions that mark a row, and stores into marked rows. -/
namespace Go.PK
open Go Go.RowKit
set_option linter.unusedVariables false
def byC (bs : List UInt8) : List Value := bs.map fun c => .int .u8 c.toNat
theorem byC_len (bs : List UInt8) : (byC bs).length = bs.length := by simp [byC]
theorem byC_at {bs : List UInt8} {j : Nat} (h : j < bs.length) : (byC bs)[j]? = some (.int .u8 bs[j].toNat) := by simp [byC, h]
theorem byC_set {bs : List UInt8} {k : Nat} {c : UInt8} (h : k < bs.length) : List.take k (byC bs) ++ (Value.int .u8 (c.toNat : Nat)).cells.toList ++ List.drop (k + 1) (byC bs) = byC (bs.set k c) := by
  show List.take k (byC bs) ++ [Value.int .u8 (c.toNat : Nat)] ++ List.drop (k + 1) (byC bs) = _
  have e : (byC bs).set k (.int .u8 (c.toNat : Nat)) = byC (bs.set k c) := by unfold byC; rw [List.map_set]
  rw [← e, List.set_eq_take_append_cons_drop, if_pos (by rw [byC_len]; exact h)]
  simp
theorem byC_one (bs : List UInt8) : (byC bs).all (fun u => u.oneCell') = true := by
  unfold byC
  rw [List.all_eq_true]
  intro u hu
  obtain ⟨c, _, rfl⟩ := List.mem_map.1 hu
  rfl
def u8of (z : Int) : UInt8 := UInt8.ofNat (z % 256).toNat
theorem u8of_wrap (z : Int) : IntKind.u8.wrap z = ((u8of z).toNat : Nat) := by
  unfold u8of
  rw [IntKind.wrap_u8, UInt8.toNat_ofNat_of_lt' (by show _ < 256; omega)]
  omega
theorem run_storeCells_T (P : Program) (g o : Nat) (t : TypeId) (fz : Nat × Nat) : ∀ (vs : List Value) (i : Nat) (cur : Array Value) (w : World), w.heap[g]? = some (.cells cur t fz) → o + i + vs.length ≤ fz.1 → o + i + vs.length ≤ cur.size → (∀ v ∈ vs, v.oneCell' = true) →
    (storeCells ⟨g, o, none⟩ vs i).run P w = .ok () (w.setRow g (cur.toList.take (o + i) ++ vs ++ cur.toList.drop (o + i + vs.length)).toArray)
  | [], i, cur, w, hg, _, _, _ => by
    simp only [storeCells, List.append_nil, List.length_nil, Nat.add_zero, List.take_append_drop, Array.toArray_toList]
    rw [setRow_self w g cur t fz hg]
    rfl
  | v :: rest, i, cur, w, hg, hfz, hl, h1 => by
    have hi : o + i < cur.size := by simp at hl; omega
    have hadd : (⟨g, o, none⟩ : Addr).add i = ⟨g, o + i, none⟩ := by unfold Addr.add; split <;> simp_all
    have hcell : w.cell? ⟨g, o + i, none⟩ = some cur[o + i] := by simp [World.cell?, hg, hi]
    have hfro : w.frozen? ⟨g, o + i, none⟩ = false := by
      obtain ⟨lo, hi'⟩ := fz
      simp only [World.frozen?, hg, Bool.and_eq_false_iff, decide_eq_false_iff_not]
      left
      simp only [List.length_cons] at hfz
      omega
    have hst : (store ((⟨g, o, none⟩ : Addr).add i) v).run P w = .ok () (w.setRow g (cur.setIfInBounds (o + i) v)) := by
      rw [hadd, run_store P w _ v _ (h1 v (by simp)), hcell]
      simp [hfro, setCell_eq_setRow w g (o + i) cur t fz v hg]
    have ih := run_storeCells_T P g o t fz rest (i + 1) (cur.setIfInBounds (o + i) v) (w.setRow g (cur.setIfInBounds (o + i) v)) (setRow_heap w g cur _ t _ hg) (by simp at hfz; omega) (by simp at hl ⊢; omega) (fun x hx => h1 x (by simp [hx]))
    simp only [storeCells, Sem.run_bind, hst, Result.andThen_ok, ih, setRow_setRow]
    congr 3
    have e := list_seg_step cur.toList (o + i) v rest (by simp at hl ⊢; omega)
    simpa [Array.toList_setIfInBounds, Nat.add_assoc] using e
theorem turned_setRowF {w : World} {g : Nat} {cs cs' : Array Value} {e : TypeId} {fz : Nat × Nat} (h : w.heap[g]? = some (.cells cs e fz)) : Turned w (w.setRow g cs') g (.cells cs' e fz) where
  os := rfl
  tape := rfl
  output := rfl
  size := by simp [World.setRow]
  at_ := setRow_heap w g cs cs' e fz h
  other := fun k hk => by
    simp only [World.setRow, Array.getElem?_modify]
    rw [if_neg (fun e => hk e.symm)]
section
variable {P : Program} {n : Nat} {l : List (Nat × Value)} {own : List (Nat × Obj)} {ro : List Snap} {lops : List Oper} {Q : Exit → Act → World → Prop} {K : Act → World → Prop}
  {rest : List (Option Bool × Nat)} {k : Option Bool} {i d : Nat} {ty t t' : TypeId} {pos : String} {af : Array Edge} {x y : Operand} {b off : Nat}
/-- A store into a row whose places are marked only behind it. -/
theorem x_storeT_core {o : Oper} {v : Value} {l1 l2 : List (Nat × Obj)} {cs : List Value} {e : TypeId} {m : Nat} {fz : Nat × Nat} (ho : lops[i]? = some o) (hgo : Go_ lops n l o) (hop : o.op = .store t x y) (hd0 : o.dst = none) (hx : ev l x = some (.pointer (some ⟨b, off, none⟩))) (hy : ev l y = some v)
    (hs : (P.info? t).map (·.size) = some m) (hm : (decide (v.cells.size = m) && v.cells.toList.all (fun u => u.oneCell')) = true) (hb : off + m ≤ cs.length) (hfz : off + m ≤ fz.1) (hown : own = l1 ++ (b, .cells cs.toArray e fz) :: l2)
    (h : WX P lops.toArray Q K rest n l (l1 ++ (b, .cells (cs.take off ++ v.cells.toList ++ cs.drop (off + m)).toArray e fz) :: l2) ro) : WX P lops.toArray Q K ((none, i) :: rest) n l own ro := by
  subst hown
  intro a w ha hw
  simp only [Bool.and_eq_true, decide_eq_true_eq, List.all_eq_true] at hm
  obtain ⟨hm, h1⟩ := hm
  have hw1 := hgo a ha
  simp only [wpX, List.getElem?_toArray, ho]
  intro w' hl
  rw [if_pos hw1]
  have hM := hw.later hl
  have hg : w'.heap[b]? = some (.cells cs.toArray e fz) := hM.own_at (b, _) (by simp)
  have hlen : v.cells.toList.length = m := by simpa using hm
  have hst := run_storeCells_T P b off e fz v.cells.toList 0 cs.toArray w' hg (by omega) (by simp only [List.size_toArray]; omega) h1
  have hst2 : (storeVar t ⟨b, off, none⟩ v).run P w' = .ok () (w'.setRow b (cs.take off ++ v.cells.toList ++ cs.drop (off + m)).toArray) := by
    simp only [storeVar, Sem.run_bind, run_sizeOf hs, Result.andThen_ok, hm, ne_eq, not_true, if_false, hst, Nat.add_zero, hlen]
  unfold Oper.wp
  have hrun : (execOp a.eval o).run P w' = .ok .skip (w'.setRow b (cs.take off ++ v.cells.toList ++ cs.drop (off + m)).toArray) := by
    simp only [execOp, hop, ha.eval hx, ha.eval hy, Instr.storeAt, Instr.sureAddr, Sem.run_bind, Sem.run_pure, Result.andThen_ok, hst2]
  rw [hrun]
  show wpX P lops.toArray Q K rest (a.put o.dst undef) _
  rw [hd0]
  exact h a _ ha (hM.turn (turned_setRowF hg))
theorem x_storeT {v : Value} (l1 : List (Nat × Obj)) {l2 : List (Nat × Obj)} {cs : List Value} {e : TypeId} {m : Nat} {fz : Nat × Nat} (ho : lops[i]? = some ⟨none, .store t x y, ty, pos, af, none⟩) (hx : ev l x = some (.pointer (some ⟨b, off, none⟩))) (hy : ev l y = some v)
    (hown : own = l1 ++ (b, .cells cs.toArray e fz) :: l2) (hs : (P.info? t).map (·.size) = some m) (hm : (decide (v.cells.size = m) && v.cells.toList.all (fun u => u.oneCell')) = true) (hb : off + m ≤ cs.length) (hfz : off + m ≤ fz.1)
    (h : WX P lops.toArray Q K rest n l (l1 ++ (b, .cells (cs.take off ++ v.cells.toList ++ cs.drop (off + m)).toArray e fz) :: l2) ro) : WX P lops.toArray Q K ((none, i) :: rest) n l own ro :=
  x_storeT_core ho (go_none rfl) rfl rfl hx hy hs hm hb hfz hown h
/-- '[]byte("..")' of a constant: the row that was written out is marked behind its end. -/
theorem x_mark {e : TypeId} {cs : List Value} (l1 : List (Nat × Obj)) {l2 : List (Nat × Obj)} {m c : Nat} {e' : TypeId} (ho : lops[i]? = some ⟨some d, .convert t t x, ty, pos, af, none⟩) (hd : decide (d < n) = true)
    (ht : P.underlying t = some (.slice e)) (he : P.underlying e = some (.int .u8)) (hx : ev l x = some (.slice (some ⟨b, off, none⟩) m c)) (hown : own = l1 ++ (b, .cells cs.toArray e' (0, 0)) :: l2)
    (h : WX P lops.toArray Q K rest n ((d, .slice (some ⟨b, off, none⟩) m c) :: l) (l1 ++ (b, .cells cs.toArray e' (cs.length, cs.length + 1)) :: l2) ro) : WX P lops.toArray Q K ((none, i) :: rest) n l own ro := by
  subst hown
  intro a w ha hw
  have hd' : d < n := of_decide_eq_true hd
  have hw1 := go_none (lops := lops) (n := n) (l := l) (o := ⟨some d, .convert t t x, ty, pos, af, none⟩) rfl a ha
  simp only [wpX, List.getElem?_toArray, ho]
  intro w' hl
  rw [if_pos hw1]
  have hM := hw.later hl
  have hg : w'.heap[b]? = some (.cells cs.toArray e' (0, 0)) := hM.own_at (b, _) (by simp)
  have hsh : w'.shape? b = some (e', cs.length) := by simp [World.shape?, hg]
  have hT : Turned w' (w'.freeze ⟨b, cs.length, none⟩ 1) b (.cells cs.toArray e' (cs.length, cs.length + 1)) := by
    unfold World.freeze
    rw [if_neg (by decide)]
    refine ⟨rfl, rfl, rfl, by simp, ?_, fun q hq => ?_⟩
    · show (w'.heap.modify b _)[b]? = _
      rw [Array.getElem?_modify, if_pos rfl, hg]
      rfl
    · show (w'.heap.modify b _)[q]? = _
      rw [Array.getElem?_modify, if_neg (fun e => hq e.symm)]
  have hrun : (execOp a.eval ⟨some d, .convert t t x, ty, pos, af, none⟩).run P w' = .ok (.value (.slice (some ⟨b, off, none⟩) m c)) (w'.freeze ⟨b, cs.length, none⟩ 1) := by
    simp [execOp, ha.eval hx, convert, run_underlying ht, run_underlying he, markStringish, hsh]
  unfold Oper.wp
  rw [hrun]
  exact h _ _ (ha.put _ hd') (hM.turn hT)
/-- '[]byte(s)': a new row, marked behind its end. -/
theorem x_bytes {e : TypeId} {s : ByteArray} {u : TypeDesc} (ho : lops[i]? = some ⟨some d, .convert t t' x, ty, pos, af, none⟩) (hk : (k == some true) = false) (hd : decide (d < n) = true)
    (hs : P.underlying t = some u) (hd2 : P.underlying t' = some (.slice e)) (he : P.underlying e = some (.int .u8)) (hx : ev l x = some (.string s))
    (h : ∀ b cp (cs : List Value) fz, s.size ≤ cp → cs.take s.size = byC s.data.toList → WX P lops.toArray Q K rest n ((d, .slice (some ⟨b, 0, none⟩) s.size cp) :: l) ((b, .cells cs.toArray e fz) :: own) ro) : WX P lops.toArray Q K ((k, i) :: rest) n l own ro := by
  intro a w ha hw
  have hd' : d < n := of_decide_eq_true hd
  have hw1 := go_none (lops := lops) (n := n) (l := l) (o := ⟨some d, .convert t t' x, ty, pos, af, none⟩) rfl a ha
  simp only [wpX, List.getElem?_toArray, ho]
  have hlat : ∀ w', Later w' (Lib.bytesWorld w' e s) := fun w' => ⟨rfl, rfl, rfl, by rw [Lib.bytesWorld_size]; omega, fun j hj => Lib.bytesWorld_at_old w' e s j hj⟩
  have hrun : ∀ w', (execOp a.eval ⟨some d, .convert t t' x, ty, pos, af, none⟩).run P w' = .ok (.value (.slice (some ⟨w'.heap.size, 0, none⟩) s.size (grownCap w' s.size 0 e))) (Lib.bytesWorld w' e s) := fun w' => by
    simp [execOp, ha.eval hx, Lib.run_convert_string_bytes w' t t' e s hs hd2 he]
  have key : ∀ w', Later w w' → wpX P lops.toArray Q K rest (a.put (some d) (.slice (some ⟨w'.heap.size, 0, none⟩) s.size (grownCap w' s.size 0 e))) (Lib.bytesWorld w' e s) := fun w' hl => by
    have hM := hw.later hl
    refine h _ _ (Lib.bytesCells w' e s).toList ((Lib.bytesCells w' e s).size, (Lib.bytesCells w' e s).size + 1) (grownCap_ge _ _ _ _) ?_ _ _ (ha.put _ hd') ?_
    · unfold Lib.bytesCells byC
      have : (s.data.map fun b => Value.int .u8 b.toNat).toList.length = s.size := by simp
      rw [Array.toList_append, ← this, List.take_left]
      simp
    · have hl2 := hlat w'
      have h2 := hM.later hl2
      refine ⟨fun p hp => ?_, ?_, h2.ro_st, h2.ro_at, fun p hp s' hs' hdd => ?_⟩
      · rcases List.mem_cons.1 hp with rfl | hp
        · simpa using Lib.bytesWorld_at_new w' e s
        · exact h2.own_at p hp
      · simp only [List.map_cons, List.nodup_cons]
        refine ⟨fun hm => ?_, h2.own_nd⟩
        obtain ⟨p, hp, he'⟩ := List.mem_map.1 hm
        have := hM.lt hp
        omega
      · rcases List.mem_cons.1 hp with rfl | hp
        · exact (hM.ro_st s' hs').2.2.2
        · exact h2.apart p hp s' hs' hdd
  cases k with
  | none =>
    intro w' hl
    rw [if_pos hw1]
    unfold Oper.wp
    rw [hrun]
    exact key w' hl
  | some b0 =>
    have : b0 = false := by cases b0 <;> simp_all
    subst this
    dsimp only
    rw [if_pos hw1]
    intro w' hl
    unfold Oper.wp
    rw [hrun]
    exact ⟨hlat w', key w' hl⟩
end
end Go.PK

/- Of the proofs of YtffdbbcmibamjaaDoor; see NOTES.md. -/
/-! A region that draws its order, where several operations that make memory may come up: the orders are a tree. -/
namespace Go.PK
open Go Go.RowKit
set_option linter.unusedVariables false
inductive Pl where
  | done
  | flt (i : Nat) (t : Pl)
  | gr (i : Nat) (t e : Pl)
  | nil
def Pl.heads : Pl → List Nat
  | .gr i _ e => i :: e.heads
  | _ => []
section
variable {P : Program} {ops : Array Oper} {md : Region.Mode}
def wpT (P : Program) (ops : Array Oper) (K : Act → World → Prop) : Pl → Act → World → Prop
  | .done, a, w => K a w
  | .flt i t, a, w => match ops[i]? with
    | none => False
    | some o => if Region.wanted o (yielded ops a.tmps) then flt P o a w (fun a' => wpT P ops K t a' w) else wpT P ops K t (a.put o.dst undef) w
  | .gr i t e, a, w => (match ops[i]? with
    | none => False
    | some o => if Region.wanted o (yielded ops a.tmps) then grw P o a w (wpT P ops K t) else wpT P ops K t (a.put o.dst undef) w) ∧ wpT P ops K e a w
  | .nil, _, _ => True
def treeB (md : Region.Mode) (ops : Array Oper) (n : Nat) : Bool → Nat → Pl → Array Bool → Bool
  | alt, f, .done, listed => !alt && decide (f = 0) && Region.seqB md ops (ops.size - n) n listed
  | alt, f, .flt i t, listed => !alt && decide (0 < f) && decide (i < n) && (Region.ready md ops listed).contains i && Region.free md ops listed i && treeB md ops n false (f - 1) t (listed.setIfInBounds i true)
  | alt, f, .gr i t e, listed => (alt || ((Region.ready md ops listed).all (fun j => ((Pl.gr i t e).heads).contains j) && !(Region.ready md ops listed).isEmpty)) && decide (0 < f) && decide (i < n) && treeB md ops n false (f - 1) t (listed.setIfInBounds i true) && treeB md ops n true f e listed
  | alt, _, .nil, _ => alt
theorem wpAnyC_tree {n : Nat} {Q : Act → World → Prop} (hQ : ∀ a w w', Later w w' → Q a w → Q a w') (hsel : Region.noSelect ops = true)
    (hnt : ∀ i, i < n → ∀ listed, HeadInv md ops n listed → listed.getD i true = false → ∀ j ∈ Region.ready md ops listed, j < n) :
    ∀ (t : Pl) (f : Nat) (listed : Array Bool) (a : Act) (w : World), HeadInv md ops n listed →
      (treeB md ops n false f t listed = true → wpT P ops Q t a w → wpAnyC P md ops n (fun listed' a' w' => Region.seqB md ops (ops.size - n) n listed' = true ∧ Q a' w') f listed a w) ∧
      (treeB md ops n true f t listed = true → wpT P ops Q t a w → ∀ j ∈ t.heads, j ∈ Region.ready md ops listed → 0 < f ∧ j < n ∧ canOp P ops j (wpAnyC P md ops n (fun listed' a' w' => Region.seqB md ops (ops.size - n) n listed' = true ∧ Q a' w') (f - 1) (listed.setIfInBounds j true)) a w)
  | .done, f, listed, a, w, _ => ⟨fun hB h => by
      simp only [treeB, Bool.and_eq_true, decide_eq_true_eq] at hB
      obtain ⟨⟨_, rfl⟩, hB⟩ := hB
      exact ⟨hB, h⟩, fun hB => by simp [treeB] at hB⟩
  | .flt i t, f, listed, a, w, inv => ⟨fun hB h => by
      simp only [treeB, Bool.and_eq_true, decide_eq_true_eq] at hB
      obtain ⟨⟨⟨⟨⟨_, hf⟩, hin⟩, hr⟩, hfr⟩, hB'⟩ := hB
      obtain ⟨g, rfl⟩ : ∃ g, f = g + 1 := ⟨f - 1, by omega⟩
      have hr' : i ∈ Region.ready md ops listed := by simpa using hr
      unfold wpT at h
      cases ho : ops[i]? with
      | none => simp only [ho] at h
      | some o =>
        simp only [ho] at h
        obtain ⟨v, hy, hK⟩ : ∃ v, YieldsC P ops o v a w ∧ wpT P ops Q t (a.put o.dst v) w := by
          by_cases hw : Region.wanted o (yielded ops a.tmps) = true
          · rw [if_pos hw] at h
            obtain ⟨v, h1, h2⟩ := h
            exact ⟨v, .inl ⟨hw, h1⟩, h2⟩
          · rw [if_neg hw] at h
            exact ⟨undef, .inr ⟨by simpa using hw, rfl⟩, h⟩
        exact wpAnyC_first (fun _ _ _ _ hw hq => ⟨hq.1, hQ _ _ _ hw hq.2⟩) ho (Region.noSelect_spec hsel) (hnt i hin) (fun _ _ _ hL => seqB_ready hL.1) hin g listed a w inv (Region.free_spec ho hfr) hr' hy
          ((wpAnyC_tree hQ hsel hnt t g _ _ _ (inv.set hr' hin)).1 (by simpa using hB') hK), fun hB => by simp [treeB] at hB⟩
  | .gr i t e, f, listed, a, w, inv => by
      have alt : ∀ alt, treeB md ops n alt f (.gr i t e) listed = true → wpT P ops Q (.gr i t e) a w → ∀ j ∈ (Pl.gr i t e).heads, j ∈ Region.ready md ops listed → 0 < f ∧ j < n ∧ canOp P ops j (wpAnyC P md ops n (fun listed' a' w' => Region.seqB md ops (ops.size - n) n listed' = true ∧ Q a' w') (f - 1) (listed.setIfInBounds j true)) a w := by
        intro alt hB h j hj hjr
        simp only [treeB, Bool.and_eq_true, decide_eq_true_eq] at hB
        obtain ⟨⟨⟨⟨_, hf⟩, hin⟩, hB1⟩, hB2⟩ := hB
        unfold wpT at h
        obtain ⟨h1, h2⟩ := h
        simp only [Pl.heads, List.mem_cons] at hj
        by_cases hji : j = i
        · subst hji
          refine ⟨hf, hin, fun w' hw' => ?_⟩
          cases ho : ops[j]? with
          | none => simp only [ho] at h1
          | some o =>
            simp only [ho] at h1
            unfold wpOp
            simp only [ho]
            by_cases hw : Region.wanted o (yielded ops a.tmps) = true
            · rw [if_pos hw] at h1 ⊢
              exact .inl (Oper.wp_mono (fun a' w2 hk => ⟨hk.1, (wpAnyC_tree hQ hsel hnt t _ _ _ _ (inv.set hjr hin)).1 hB1 hk.2⟩) (h1 w' hw'))
            · rw [if_neg hw] at h1 ⊢
              exact ⟨Later.refl _, wpAnyC_later (fun _ _ _ _ hw hq => ⟨hq.1, hQ _ _ _ hw hq.2⟩) _ _ _ _ _ hw' ((wpAnyC_tree hQ hsel hnt t _ _ _ _ (inv.set hjr hin)).1 hB1 h1)⟩
        · have hj' : j ∈ e.heads := by rcases hj with h | h; exact absurd h hji; exact h
          exact (wpAnyC_tree hQ hsel hnt e f listed a w inv).2 hB2 h2 j hj' hjr
      refine ⟨fun hB h => ?_, alt true⟩
      have hB0 := hB
      simp only [treeB, Bool.and_eq_true, decide_eq_true_eq, Bool.false_or] at hB
      obtain ⟨⟨⟨⟨⟨hall, hne⟩, hf⟩, _⟩, _⟩, _⟩ := hB
      obtain ⟨g, rfl⟩ : ∃ g, f = g + 1 := ⟨f - 1, by omega⟩
      refine ⟨fun h0 => by rw [h0] at hne; simp at hne, fun j hj => ?_⟩
      have hjh : j ∈ (Pl.gr i t e).heads := by simpa using List.all_eq_true.1 hall j hj
      exact (alt false hB0 h j hjh hj).2
  | .nil, f, listed, a, w, _ => ⟨fun hB => by simp [treeB] at hB, fun _ _ j hj => by simp [Pl.heads] at hj⟩
theorem wp_region_tree {id : Nat} {Q : Exit → Act → World → Prop} {a : Act} {w : World} {l : List Oper} (n : Nat) (t : Pl) (hm : P.follows .mixedOrders = true)
    (hB : (Region.noSelect l.toArray && (decide (n = l.toArray.size) || (decide (n < l.toArray.size) && Region.sinkB .any l.toArray n && Region.chainB .any l.toArray n)) && treeB .any l.toArray n false n t (Array.replicate l.toArray.size false)) = true)
    (h : wpT P l.toArray (fun a' w' => ∀ w'', Later w' w'' → wpList P l.toArray Q (l.drop n) a' w'') t a w) : (Code.region id l.toArray true).wp P Q a w := by
  simp only [Bool.and_eq_true] at hB
  obtain ⟨⟨hsel, hn⟩, hpl⟩ := hB
  have hnle : n ≤ l.toArray.size := by
    rcases Bool.or_eq_true _ _ ▸ hn with hn | hn
    · simp only [decide_eq_true_eq] at hn; omega
    · simp only [Bool.and_eq_true, decide_eq_true_eq] at hn; omega
  have hnt : ∀ i, i < n → ∀ listed, HeadInv .any l.toArray n listed → listed.getD i true = false → ∀ j ∈ Region.ready .any l.toArray listed, j < n := by
    intro i hin listed inv hun j hj
    rcases Bool.or_eq_true _ _ ▸ hn with hn | hn
    · simp only [decide_eq_true_eq] at hn
      have := ready_lt j hj
      omega
    · simp only [Bool.and_eq_true, decide_eq_true_eq] at hn
      obtain ⟨⟨hn, hs⟩, hc⟩ := hn
      rcases Nat.lt_or_ge j n with h | h
      · exact h
      · exact absurd hj (tail_waits hs hc hn inv _ i rfl hin hun j h)
  have inv0 : HeadInv .any l.toArray n (Array.replicate l.toArray.size false) :=
    ⟨by simp, fun j oj _ hl => (by rw [getD_replicate_false] at hl; cases hl), fun t _ ht => getD_in (by simpa using ht) (getD_replicate_false _ _)⟩
  have H := (wpAnyC_tree (P := P) (md := .any) (Q := fun a' w' => ∀ w'', Later w' w'' → wpList P l.toArray Q (l.drop n) a' w'') (fun a w w' hw hq w'' hw'' => hq w'' (hw.trans hw'')) hsel hnt t n _ a w inv0).1 hpl h
  refine wp_region_any hm ?_
  have hdl : (l.drop n).length = l.toArray.size - n := by simp
  have := wpAny_of_can (Q' := Q) (g := l.toArray.size - n) (fun listed a' w' hL => by
    have := wpAny_of_seq (md := .any) (Q' := Q) (l.drop n) n listed a' w' (fun j => by simp [List.getElem?_drop]) (by rw [hdl]; exact hL.1) (hL.2 w' (Later.refl _))
    rwa [hdl] at this) _ _ _ _ (wpAnyC_later (fun _ _ _ _ hw hq => ⟨hq.1, fun w2 h2 => hq.2 w2 (hw.trans h2)⟩) _ _ _ _ _ (Later.drew w) H)
  rw [show n + (l.toArray.size - n) = l.toArray.size by omega] at this
  exact this
end
section
variable {P : Program} {n : Nat} {l : List (Nat × Value)} {own : List (Nat × Obj)} {ro : List Snap}
theorem rg_tree {id : Nat} {Q : Exit → Act → World → Prop} {lops : List Oper} (m : Nat) (t : Pl) (hm : P.follows .mixedOrders = true)
    (hB : (Region.noSelect lops.toArray && (decide (m = lops.toArray.size) || (decide (m < lops.toArray.size) && Region.sinkB .any lops.toArray m && Region.chainB .any lops.toArray m)) && treeB .any lops.toArray m false m t (Array.replicate lops.toArray.size false)) = true)
    (h : S (wpT P lops.toArray (fun a' w' => ∀ w'', Later w' w'' → wpList P lops.toArray Q (lops.drop m) a' w'') t) n l own ro) : W P (.region id lops.toArray true) Q n l own ro :=
  fun a w ha hw => wp_region_tree m t hm hB (h a w ha hw)
variable {ops : Array Oper} {Q : Exit → Act → World → Prop} {K : Act → World → Prop} {i : Nat} {t e : Pl}
theorem t_flt (h : WX P ops Q (wpT P ops K t) [(some true, i)] n l own ro) : S (wpT P ops K (.flt i t)) n l own ro := fun a w ha hw => by
  have h := h a w ha hw
  unfold wpT
  simp only [wpX] at h
  split <;> rename_i ho <;> simp only [ho] at h
  split <;> rename_i hw'
  · rw [if_pos hw'] at h
    obtain ⟨v, h1, h2⟩ := h
    exact ⟨v, h1, h2 w (Later.refl _)⟩
  · rw [if_neg hw'] at h
    exact h w (Later.refl _)
theorem t_gr (h : WX P ops Q (wpT P ops K t) [(some false, i)] n l own ro) (he : S (wpT P ops K e) n l own ro) : S (wpT P ops K (.gr i t e)) n l own ro := fun a w ha hw => by
  have h := h a w ha hw
  unfold wpT
  refine ⟨?_, he a w ha hw⟩
  simp only [wpX] at h
  split <;> rename_i ho <;> simp only [ho] at h
  split <;> rename_i hw'
  · rw [if_pos hw'] at h
    exact fun w2 h2 => Oper.wp_mono (fun a' w' hk => ⟨hk.1, hk.2 w' (Later.refl _)⟩) (h w2 h2)
  · rw [if_neg hw'] at h
    exact h w (Later.refl _)
theorem t_nil : S (wpT P ops K .nil) n l own ro := fun _ _ _ _ => trivial
theorem t_done {lops : List Oper} {m : Nat} (h : WX P lops.toArray Q (fun a w => Q .normal a w) (tailFrom m lops.length) n l own ro) :
    S (wpT P lops.toArray (fun a' w' => ∀ w'', Later w' w'' → wpList P lops.toArray Q (lops.drop m) a' w'') .done) n l own ro :=
  fun a w ha hw w2 h2 => wpList_of_X _ m a w2 rfl (wpX_later h2 (h a w ha hw))
end
end Go.PK

/- Of the proofs of YtffdbbcmibamjaaDoor; see NOTES.md. -/
/-! As PkTree, but what a region has made may turn again within it: all is said of the world at the region's start. -/
namespace Go.PK
open Go Go.RowKit
set_option linter.unusedVariables false
section
variable {P : Program} {ops : Array Oper} {md : Region.Mode} {w0 : World}
def canOp0 (P : Program) (ops : Array Oper) (w0 : World) (i : Nat) (K : Act → World → Prop) (a : Act) (w : World) : Prop :=
  ∀ w', Later w w' → Later w0 w' → wpOp P ops (fun _ _ _ => False) i (fun a'' w'' => Later w0 w'' ∧ K a'' w'') a w'
theorem canOp0_mono {i : Nat} {a : Act} {w : World} {K K' : Act → World → Prop} (h : ∀ a w, K a w → K' a w) (hh : canOp0 P ops w0 i K a w) : canOp0 P ops w0 i K' a w :=
  fun w' hw h0 => wpOp_mono (fun _ _ hk => ⟨hk.1, h _ _ hk.2⟩) (hh w' hw h0)
theorem canOp0_later {i : Nat} {a : Act} {w w1 : World} {K : Act → World → Prop} (hw : Later w w1) (hh : canOp0 P ops w0 i K a w) : canOp0 P ops w0 i K a w1 :=
  fun w' hw' h0 => hh w' (hw.trans hw') h0
def wpAny0 (P : Program) (md : Region.Mode) (ops : Array Oper) (w0 : World) (n : Nat) (L : Array Bool → Act → World → Prop) : Nat → Array Bool → Act → World → Prop
  | 0, listed, a, w => L listed a w
  | f + 1, listed, a, w => Region.ready md ops listed ≠ [] ∧ ∀ i ∈ Region.ready md ops listed, i < n ∧ canOp0 P ops w0 i (wpAny0 P md ops w0 n L f (listed.setIfInBounds i true)) a w
theorem wpAny0_later {n : Nat} {L : Array Bool → Act → World → Prop} (hL : LaterClosed L) : ∀ (f : Nat) (listed : Array Bool) (a : Act) (w w' : World), Later w w' →
    wpAny0 P md ops w0 n L f listed a w → wpAny0 P md ops w0 n L f listed a w'
  | 0, _, _, _, _, h, hh => hL _ _ _ _ h hh
  | _ + 1, _, _, _, _, h, hh => ⟨hh.1, fun i hi => ⟨(hh.2 i hi).1, canOp0_later h (hh.2 i hi).2⟩⟩
theorem wpAny_of_can0 {n g : Nat} {L : Array Bool → Act → World → Prop} {Q' : Exit → Act → World → Prop} (hL : ∀ listed a w, Later w0 w → L listed a w → wpAny P md ops Q' g listed a w) :
    ∀ (f : Nat) (listed : Array Bool) (a : Act) (w : World), Later w0 w → wpAny0 P md ops w0 n L f listed a w → wpAny P md ops Q' (f + g) listed a w
  | 0, listed, a, w, h0, h => by rw [Nat.zero_add]; exact hL _ _ _ h0 h
  | f + 1, listed, a, w, h0, h => by
    rw [show f + 1 + g = (f + g) + 1 by omega]
    refine ⟨fun he => absurd he h.1, fun i hi => ?_⟩
    have h1 := (h.2 i hi).2 w (Later.refl w) h0
    have h2 : wpOp P ops (fun _ _ _ => False) i (wpAny P md ops Q' (f + g) (listed.setIfInBounds i true)) a w :=
      wpOp_mono (fun a' w' h' => wpAny_of_can0 hL f _ a' w' h'.1 h'.2) h1
    unfold wpOp at h2 ⊢
    split
    · rename_i ho; simp only [ho] at h2; exact h2
    · rename_i o ho
      simp only [ho] at h2
      split
      · rename_i hw
        simp only [hw, if_true] at h2
        rcases h2 with h2 | ⟨_, _, _, h2⟩
        · refine .inl ?_
          unfold Oper.wp at h2 ⊢
          generalize (execOp a.eval o).run P w = r at *
          cases r with
          | ok x w' =>
            cases x <;> simp only [Oper.upon] at h2 ⊢ <;> first
              | exact h2
              | (refine Calls.mono h2 fun e w'' he => ?_
                 cases e with
                 | returned u => exact he
                 | panicked c => exact he.elim
                 | outgrown => obtain ⟨_, _, hf⟩ := he; exact hf.elim)
          | halt x w' => cases x <;> simp only [Oper.upon] at h2 ⊢
        · exact h2.elim
      · rename_i hw
        simp only [hw] at h2
        exact h2
def Yields0 (P : Program) (ops : Array Oper) (w0 : World) (o : Oper) (v : Value) (a : Act) : Prop :=
  (Region.wanted o (yielded ops a.tmps) = true ∧ ∀ w', Later w0 w' → fltAt P o a w' v) ∨ (Region.wanted o (yielded ops a.tmps) = false ∧ v = undef)
theorem Yields0.of_same {o : Oper} {v : Value} {a a' : Act} (hy : Yields0 P ops w0 o v a) (he : execOp a'.eval o = execOp a.eval o)
    (hw : Region.wanted o (yielded ops a'.tmps) = Region.wanted o (yielded ops a.tmps)) : Yields0 P ops w0 o v a' := by
  unfold Yields0 fltAt at *
  rw [he, hw]
  exact hy
theorem Yields0.canOp {i : Nat} {o : Oper} {v : Value} {a : Act} {w : World} (hi : ops[i]? = some o) (hy : Yields0 P ops w0 o v a) {K : Act → World → Prop}
    (h : ∀ w', Later w w' → K (a.put o.dst v) w') : canOp0 P ops w0 i K a w := by
  intro w' hw' h0
  unfold Go.wpOp
  simp only [hi]
  rcases hy with ⟨hw, hv⟩ | ⟨hw, rfl⟩
  · rw [if_pos hw]
    refine .inl ?_
    have h3 := hv w' h0
    unfold fltAt at h3
    unfold Oper.wp
    generalize (execOp a.eval o).run P w' = r at *
    cases r with
    | ok n w1 =>
      cases n <;> simp only [fltUpon] at h3 <;> simp only [Oper.upon]
      case value u => obtain ⟨rfl, rfl⟩ := h3; exact ⟨h0, h _ hw'⟩
      case skip => obtain ⟨rfl, rfl⟩ := h3; exact ⟨h0, h _ hw'⟩
      case enter f args =>
        obtain ⟨rfl, hc⟩ := h3
        exact hc.mono fun e w2 ⟨he, hl⟩ => by subst he; exact ⟨h0.trans hl, h _ (hw'.trans hl)⟩
    | halt x w1 => simp only [fltUpon] at h3
  · rw [if_neg (by rw [hw]; exact Bool.false_ne_true)]
    exact ⟨h0, h _ hw'⟩
theorem canOp_put0 {j : Nat} {oi oj : Oper} {v : Value} (hj : ops[j]? = some oj) (hap : oi.apart ops oj = true)
    (hsi : ∀ cs b, oi.op ≠ .select cs b) (hsj : ∀ cs b, oj.op ≠ .select cs b) {K : Act → World → Prop} {a : Act} {w : World}
    (hy : Yields0 P ops w0 oi v a) (h : canOp0 P ops w0 j K (a.put oi.dst v) w) :
    canOp0 P ops w0 j (fun a' w' => Yields0 P ops w0 oi v a' ∧ K (a'.put oi.dst v) w') a w := by
  obtain ⟨h1, h2, h3⟩ := Oper.apart_spec hap
  intro w' hw' h0
  have keep : ∀ (a : Act), Yields0 P ops w0 oi v a → ∀ u, Yields0 P ops w0 oi v (a.put oj.dst u) := fun a hy u =>
    hy.of_same (execOp_put oi hsi a oj.dst u h3) (wanted_put oi a oj.dst u h3)
  have keepD : ∀ d, Yields0 P ops w0 oi v { a with defers := d :: a.defers } := fun d => hy.of_same rfl rfl
  have h := h w' hw' h0
  unfold Go.wpOp at *
  simp only [hj] at *
  rw [wanted_put oj a oi.dst v h1] at h
  split
  · rename_i hw
    simp only [hw, if_true] at h
    rcases h with h | ⟨hasks, _, _, hlets⟩
    case inr => exact hlets.elim
    refine .inl ?_
    unfold Oper.wp at *
    rw [execOp_put oj hsj a oi.dst v h1] at h
    generalize (execOp a.eval oj).run P w' = r at *
    cases r with
    | ok n w1 =>
      cases n <;> simp only [Oper.upon] at h ⊢
      case value u => exact ⟨h.1, keep a hy u, by rw [← Act.put_comm a v u h2]; exact h.2⟩
      case skip => exact ⟨h.1, keep a hy _, by rw [← Act.put_comm a v undef h2]; exact h.2⟩
      case defer d =>
        refine ⟨h.1, keep _ (keepD d) _, ?_⟩
        rw [← Act.put_comm _ v undef h2, ← Act.put_defers]
        exact h.2
      case enter f args =>
        refine Calls.mono h fun e w2 he => ?_
        cases e with
        | returned u => exact ⟨he.1, keep a hy u, by rw [← Act.put_comm a v u h2]; exact he.2⟩
        | panicked c => exact he
        | outgrown => exact he
      case row row args => exact Rows.mono h fun u w2 he => ⟨he.1, keep a hy u, by rw [← Act.put_comm a v u h2]; exact he.2⟩
    | halt x w1 =>
      cases x <;> simp only [Oper.upon] at h ⊢
  · rename_i hw
    simp only [hw] at h
    exact ⟨h.1, keep a hy _, by rw [← Act.put_comm a v undef h2]; exact h.2⟩
theorem wpAny0_first {n i : Nat} {oi : Oper} {v : Value} {L : Array Bool → Act → World → Prop} (hL : LaterClosed L) (hi : ops[i]? = some oi) (hsel : ∀ (j : Nat) (o : Oper) cs b, ops[j]? = some o → o.op ≠ .select cs b)
    (hnt : ∀ listed, HeadInv md ops n listed → listed.getD i true = false → ∀ j ∈ Region.ready md ops listed, j < n)
    (hdone : ∀ listed a w, L listed a w → ∀ j ∈ Region.ready md ops listed, n ≤ j) (hin : i < n) :
    ∀ (f : Nat) (listed : Array Bool) (a : Act) (w : World), HeadInv md ops n listed →
      (∀ j oj, ops[j]? = some oj → j ≠ i → listed.getD j true = false → (∀ e ∈ oj.after, Region.binds md e = true → e.on ≠ i) → oi.apart ops oj = true) →
      i ∈ Region.ready md ops listed → Yields0 P ops w0 oi v a →
      wpAny0 P md ops w0 n L f (listed.setIfInBounds i true) (a.put oi.dst v) w → wpAny0 P md ops w0 n L (f + 1) listed a w := by
  intro f
  induction f with
  | zero =>
    intro listed a w inv _ hr hy H
    have hun := (mem_ready.1 hr).1
    refine ⟨fun h => (by rw [h] at hr; cases hr), fun j hj => ?_⟩
    have hjn := hnt listed inv hun j hj
    refine ⟨hjn, ?_⟩
    by_cases hji : j = i
    · subst hji; exact hy.canOp hi fun w' hw' => hL _ _ _ _ hw' H
    · have := hdone _ _ _ H j (ready_mono hj hji)
      omega
  | succ f ih =>
    intro listed a w inv hfree hr hy H
    have hun := (mem_ready.1 hr).1
    refine ⟨fun h => (by rw [h] at hr; cases hr), fun j hj => ?_⟩
    have hjn := hnt listed inv hun j hj
    refine ⟨hjn, ?_⟩
    by_cases hji : j = i
    · subst hji; exact hy.canOp hi fun w' hw' => wpAny0_later hL _ _ _ _ _ hw' H
    · have h1 := (H.2 j (ready_mono hj hji)).2
      obtain ⟨hjun, oj, hoj, hall⟩ := mem_ready.1 hj
      have hnot : ∀ e ∈ oj.after, Region.binds md e = true → e.on ≠ i := fun e he hb heq => by
        have h1 := hall e he hb
        rw [heq, getD_both hun] at h1
        cases h1
      have h2 := canOp_put0 hoj (hfree j oj hoj hji hjun hnot) (fun cs b => hsel i oi cs b hi) (fun cs b => hsel j oj cs b hoj) hy h1
      have hfree' : ∀ k ok, ops[k]? = some ok → k ≠ i → (listed.setIfInBounds j true).getD k true = false →
          (∀ e ∈ ok.after, Region.binds md e = true → e.on ≠ i) → oi.apart ops ok = true := fun k ok hk hki hun hno => by
        refine hfree k ok hk hki ?_ hno
        by_cases hjk : j = k
        · subst hjk; exact hjun
        · rw [getD_set_ne true hjk] at hun; exact hun
      refine canOp0_mono (fun a' w' h3 => ih (listed.setIfInBounds j true) a' w' (inv.set hj hjn) hfree' (ready_mono hr (Ne.symm hji)) h3.1 ?_) h2
      rw [Array.setIfInBounds_comm _ _ hji]
      exact h3.2
def wpB (P : Program) (ops : Array Oper) (w0 : World) (K : Act → World → Prop) : Pl → Act → World → Prop
  | .done, a, w => K a w
  | .flt i t, a, w => match ops[i]? with
    | none => False
    | some o => if Region.wanted o (yielded ops a.tmps) then ∃ v, (∀ w', Later w0 w' → fltAt P o a w' v) ∧ wpB P ops w0 K t (a.put o.dst v) w else wpB P ops w0 K t (a.put o.dst undef) w
  | .gr i t e, a, w => (match ops[i]? with
    | none => False
    | some o => if Region.wanted o (yielded ops a.tmps) then ∀ w', Later w w' → o.wp P a w' (fun a'' w'' => Later w0 w'' ∧ wpB P ops w0 K t a'' w'') (fun _ _ _ => False) else wpB P ops w0 K t (a.put o.dst undef) w) ∧ wpB P ops w0 K e a w
  | .nil, _, _ => True
theorem wpAny0_tree {n : Nat} {Q : Act → World → Prop} (hQ : ∀ a w w', Later w w' → Q a w → Q a w') (hsel : Region.noSelect ops = true)
    (hnt : ∀ i, i < n → ∀ listed, HeadInv md ops n listed → listed.getD i true = false → ∀ j ∈ Region.ready md ops listed, j < n) :
    ∀ (t : Pl) (f : Nat) (listed : Array Bool) (a : Act) (w : World), HeadInv md ops n listed →
      (treeB md ops n false f t listed = true → wpB P ops w0 Q t a w → wpAny0 P md ops w0 n (fun listed' a' w' => Region.seqB md ops (ops.size - n) n listed' = true ∧ Q a' w') f listed a w) ∧
      (treeB md ops n true f t listed = true → wpB P ops w0 Q t a w → ∀ j ∈ t.heads, j ∈ Region.ready md ops listed → 0 < f ∧ j < n ∧ canOp0 P ops w0 j (wpAny0 P md ops w0 n (fun listed' a' w' => Region.seqB md ops (ops.size - n) n listed' = true ∧ Q a' w') (f - 1) (listed.setIfInBounds j true)) a w)
  | .done, f, listed, a, w, _ => ⟨fun hB h => by
      simp only [treeB, Bool.and_eq_true, decide_eq_true_eq] at hB
      obtain ⟨⟨_, rfl⟩, hB⟩ := hB
      exact ⟨hB, h⟩, fun hB => by simp [treeB] at hB⟩
  | .flt i t, f, listed, a, w, inv => ⟨fun hB h => by
      simp only [treeB, Bool.and_eq_true, decide_eq_true_eq] at hB
      obtain ⟨⟨⟨⟨⟨_, hf⟩, hin⟩, hr⟩, hfr⟩, hB'⟩ := hB
      obtain ⟨g, rfl⟩ : ∃ g, f = g + 1 := ⟨f - 1, by omega⟩
      have hr' : i ∈ Region.ready md ops listed := by simpa using hr
      unfold wpB at h
      cases ho : ops[i]? with
      | none => simp only [ho] at h
      | some o =>
        simp only [ho] at h
        obtain ⟨v, hy, hK⟩ : ∃ v, Yields0 P ops w0 o v a ∧ wpB P ops w0 Q t (a.put o.dst v) w := by
          by_cases hw : Region.wanted o (yielded ops a.tmps) = true
          · rw [if_pos hw] at h
            obtain ⟨v, h1, h2⟩ := h
            exact ⟨v, .inl ⟨hw, h1⟩, h2⟩
          · rw [if_neg hw] at h
            exact ⟨undef, .inr ⟨by simpa using hw, rfl⟩, h⟩
        exact wpAny0_first (fun _ _ _ _ hw hq => ⟨hq.1, hQ _ _ _ hw hq.2⟩) ho (Region.noSelect_spec hsel) (hnt i hin) (fun _ _ _ hL => seqB_ready hL.1) hin g listed a w inv (Region.free_spec ho hfr) hr' hy
          ((wpAny0_tree hQ hsel hnt t g _ _ _ (inv.set hr' hin)).1 (by simpa using hB') hK), fun hB => by simp [treeB] at hB⟩
  | .gr i t e, f, listed, a, w, inv => by
      have alt : ∀ alt, treeB md ops n alt f (.gr i t e) listed = true → wpB P ops w0 Q (.gr i t e) a w → ∀ j ∈ (Pl.gr i t e).heads, j ∈ Region.ready md ops listed → 0 < f ∧ j < n ∧ canOp0 P ops w0 j (wpAny0 P md ops w0 n (fun listed' a' w' => Region.seqB md ops (ops.size - n) n listed' = true ∧ Q a' w') (f - 1) (listed.setIfInBounds j true)) a w := by
        intro alt hB h j hj hjr
        simp only [treeB, Bool.and_eq_true, decide_eq_true_eq] at hB
        obtain ⟨⟨⟨⟨_, hf⟩, hin⟩, hB1⟩, hB2⟩ := hB
        unfold wpB at h
        obtain ⟨h1, h2⟩ := h
        simp only [Pl.heads, List.mem_cons] at hj
        by_cases hji : j = i
        · subst hji
          refine ⟨hf, hin, fun w' hw' h0 => ?_⟩
          cases ho : ops[j]? with
          | none => simp only [ho] at h1
          | some o =>
            simp only [ho] at h1
            unfold wpOp
            simp only [ho]
            by_cases hw : Region.wanted o (yielded ops a.tmps) = true
            · rw [if_pos hw] at h1 ⊢
              exact .inl (Oper.wp_mono (fun a' w2 hk => ⟨hk.1, (wpAny0_tree hQ hsel hnt t _ _ _ _ (inv.set hjr hin)).1 hB1 hk.2⟩) (h1 w' hw'))
            · rw [if_neg hw] at h1 ⊢
              exact ⟨h0, wpAny0_later (fun _ _ _ _ hw hq => ⟨hq.1, hQ _ _ _ hw hq.2⟩) _ _ _ _ _ hw' ((wpAny0_tree hQ hsel hnt t _ _ _ _ (inv.set hjr hin)).1 hB1 h1)⟩
        · have hj' : j ∈ e.heads := by rcases hj with h | h; exact absurd h hji; exact h
          exact (wpAny0_tree hQ hsel hnt e f listed a w inv).2 hB2 h2 j hj' hjr
      refine ⟨fun hB h => ?_, alt true⟩
      have hB0 := hB
      simp only [treeB, Bool.and_eq_true, decide_eq_true_eq, Bool.false_or] at hB
      obtain ⟨⟨⟨⟨⟨hall, hne⟩, hf⟩, _⟩, _⟩, _⟩ := hB
      obtain ⟨g, rfl⟩ : ∃ g, f = g + 1 := ⟨f - 1, by omega⟩
      refine ⟨fun h0 => by rw [h0] at hne; simp at hne, fun j hj => ?_⟩
      have hjh : j ∈ (Pl.gr i t e).heads := by simpa using List.all_eq_true.1 hall j hj
      exact (alt false hB0 h j hjh hj).2
  | .nil, f, listed, a, w, _ => ⟨fun hB => by simp [treeB] at hB, fun _ _ j hj => by simp [Pl.heads] at hj⟩
theorem wp_region_base {id : Nat} {Q : Exit → Act → World → Prop} {a : Act} {w : World} {l : List Oper} (n : Nat) (t : Pl) (hm : P.follows .mixedOrders = true)
    (hB : (Region.noSelect l.toArray && (decide (n = l.toArray.size) || (decide (n < l.toArray.size) && Region.sinkB .any l.toArray n && Region.chainB .any l.toArray n)) && treeB .any l.toArray n false n t (Array.replicate l.toArray.size false)) = true)
    (h : wpB P l.toArray w (fun a' w' => ∀ w'', Later w' w'' → wpList P l.toArray Q (l.drop n) a' w'') t a w) : (Code.region id l.toArray true).wp P Q a w := by
  simp only [Bool.and_eq_true] at hB
  obtain ⟨⟨hsel, hn⟩, hpl⟩ := hB
  have hnle : n ≤ l.toArray.size := by
    rcases Bool.or_eq_true _ _ ▸ hn with hn | hn
    · simp only [decide_eq_true_eq] at hn; omega
    · simp only [Bool.and_eq_true, decide_eq_true_eq] at hn; omega
  have hnt : ∀ i, i < n → ∀ listed, HeadInv .any l.toArray n listed → listed.getD i true = false → ∀ j ∈ Region.ready .any l.toArray listed, j < n := by
    intro i hin listed inv hun j hj
    rcases Bool.or_eq_true _ _ ▸ hn with hn | hn
    · simp only [decide_eq_true_eq] at hn
      have := ready_lt j hj
      omega
    · simp only [Bool.and_eq_true, decide_eq_true_eq] at hn
      obtain ⟨⟨hn, hs⟩, hc⟩ := hn
      rcases Nat.lt_or_ge j n with h | h
      · exact h
      · exact absurd hj (tail_waits hs hc hn inv _ i rfl hin hun j h)
  have inv0 : HeadInv .any l.toArray n (Array.replicate l.toArray.size false) :=
    ⟨by simp, fun j oj _ hl => (by rw [getD_replicate_false] at hl; cases hl), fun t _ ht => getD_in (by simpa using ht) (getD_replicate_false _ _)⟩
  have H := (wpAny0_tree (P := P) (md := .any) (w0 := w) (Q := fun a' w' => ∀ w'', Later w' w'' → wpList P l.toArray Q (l.drop n) a' w'') (fun a w w' hw hq w'' hw'' => hq w'' (hw.trans hw'')) hsel hnt t n _ a w inv0).1 hpl h
  refine wp_region_any hm ?_
  have hdl : (l.drop n).length = l.toArray.size - n := by simp
  have := wpAny_of_can0 (Q' := Q) (g := l.toArray.size - n) (w0 := w) (fun listed a' w' _ hL => by
    have := wpAny_of_seq (md := .any) (Q' := Q) (l.drop n) n listed a' w' (fun j => by simp [List.getElem?_drop]) (by rw [hdl]; exact hL.1) (hL.2 w' (Later.refl _))
    rwa [hdl] at this) _ _ _ _ (Later.drew w) (wpAny0_later (fun _ _ _ _ hw hq => ⟨hq.1, fun w2 h2 => hq.2 w2 (hw.trans h2)⟩) _ _ _ _ _ (Later.drew w) H)
  rw [show n + (l.toArray.size - n) = l.toArray.size by omega] at this
  exact this
end
section
variable {P : Program} {n : Nat} {l : List (Nat × Value)} {own : List (Nat × Obj)} {ro : List Snap}
theorem Mem.frozen {w : World} (h : Mem w own ro) : Mem w [] ((w, fun _ => True) :: ro) where
  own_at := fun p hp => by cases hp
  own_nd := by simp
  ro_st := fun s hs => by
    rcases List.mem_cons.1 hs with rfl | hs
    · exact ⟨rfl, rfl, rfl, Nat.le_refl _⟩
    · exact h.ro_st s hs
  ro_at := fun s hs k hk hlt => by
    rcases List.mem_cons.1 hs with rfl | hs
    · rfl
    · exact h.ro_at s hs k hk hlt
  apart := fun p hp => by cases hp
theorem rg_base {id : Nat} {Q : Exit → Act → World → Prop} {lops : List Oper} (m : Nat) (t : Pl) (hm : P.follows .mixedOrders = true)
    (hB : (Region.noSelect lops.toArray && (decide (m = lops.toArray.size) || (decide (m < lops.toArray.size) && Region.sinkB .any lops.toArray m && Region.chainB .any lops.toArray m)) && treeB .any lops.toArray m false m t (Array.replicate lops.toArray.size false)) = true)
    (h : ∀ w0, Mem w0 own ro → Mem w0 [] ((w0, fun _ => True) :: ro) → S (wpB P lops.toArray w0 (fun a' w' => ∀ w'', Later w' w'' → wpList P lops.toArray Q (lops.drop m) a' w'') t) n l [] ((w0, fun _ => True) :: ro)) : W P (.region id lops.toArray true) Q n l own ro :=
  fun a w ha hw => wp_region_base m t hm hB (h w hw hw.frozen a w ha hw.frozen)
variable {ops : Array Oper} {Q : Exit → Act → World → Prop} {K : Act → World → Prop} {i : Nat} {t e : Pl} {w0 : World}
theorem b_flt (hm0 : Mem w0 own ro) (hs : (w0, fun _ => True) ∈ ro) (h : WX P ops Q (wpB P ops w0 K t) [(some true, i)] n l own ro) : S (wpB P ops w0 K (.flt i t)) n l own ro := fun a w ha hw => by
  have h := h a w0 ha hm0
  have hl := hw.base hs
  unfold wpB
  simp only [wpX] at h
  split <;> rename_i ho <;> simp only [ho] at h
  split <;> rename_i hw'
  · rw [if_pos hw'] at h
    obtain ⟨v, h1, h2⟩ := h
    exact ⟨v, h1, h2 w hl⟩
  · rw [if_neg hw'] at h
    exact h w hl
theorem b_gr (h : WX P ops (fun _ _ _ => False) (fun a w => Later w0 w ∧ wpB P ops w0 K t a w) [(none, i)] n l own ro) (he : S (wpB P ops w0 K e) n l own ro) : S (wpB P ops w0 K (.gr i t e)) n l own ro := fun a w ha hw => by
  have h := h a w ha hw
  unfold wpB
  refine ⟨?_, he a w ha hw⟩
  simp only [wpX] at h
  split <;> rename_i ho <;> simp only [ho] at h
  split <;> rename_i hw'
  · intro w2 h2
    have h := h w2 h2
    rw [if_pos hw'] at h
    exact Oper.wp_mono (fun a' w' hk => hk w' (Later.refl _)) h
  · have h := h w (Later.refl _)
    rw [if_neg hw'] at h
    exact (h w (Later.refl _)).2
theorem b_end (hs : (w0, fun _ => True) ∈ ro) (h : S (wpB P ops w0 K t) n l own ro) : S (fun a w => Later w0 w ∧ wpB P ops w0 K t a w) n l own ro := fun a w ha hw => ⟨hw.base hs, h a w ha hw⟩
theorem b_nil : S (wpB P ops w0 K .nil) n l own ro := fun _ _ _ _ => trivial
theorem b_done {lops : List Oper} {m : Nat} (h : WX P lops.toArray Q (fun a w => Q .normal a w) (tailFrom m lops.length) n l own ro) :
    S (wpB P lops.toArray w0 (fun a' w' => ∀ w'', Later w' w'' → wpList P lops.toArray Q (lops.drop m) a' w'') .done) n l own ro :=
  fun a w ha hw w2 h2 => wpList_of_X _ m a w2 rfl (wpX_later h2 (h a w ha hw))
end
end Go.PK

/- Of the proofs of YtffdbbcmibamjaaDoor; see NOTES.md. -/
/-! As PkTree2, over worlds that keep an invariant: blocks that the region turns are left out of it. -/
namespace Go.PK
open Go Go.RowKit
set_option linter.unusedVariables false
section
variable {P : Program} {ops : Array Oper} {md : Region.Mode} {oF : List (Nat × Obj)} {rF : List Snap}
def canOpJ (P : Program) (ops : Array Oper) (oF : List (Nat × Obj)) (rF : List Snap) (i : Nat) (K : Act → World → Prop) (a : Act) (w : World) : Prop :=
  ∀ w', Later w w' → Mem w' oF rF → wpOp P ops (fun _ _ _ => False) i (fun a'' w'' => Mem w'' oF rF ∧ K a'' w'') a w'
theorem canOpJ_mono {i : Nat} {a : Act} {w : World} {K K' : Act → World → Prop} (h : ∀ a w, K a w → K' a w) (hh : canOpJ P ops oF rF i K a w) : canOpJ P ops oF rF i K' a w :=
  fun w' hw h0 => wpOp_mono (fun _ _ hk => ⟨hk.1, h _ _ hk.2⟩) (hh w' hw h0)
theorem canOpJ_later {i : Nat} {a : Act} {w w1 : World} {K : Act → World → Prop} (hw : Later w w1) (hh : canOpJ P ops oF rF i K a w) : canOpJ P ops oF rF i K a w1 :=
  fun w' hw' h0 => hh w' (hw.trans hw') h0
def wpAnyJ (P : Program) (md : Region.Mode) (ops : Array Oper) (oF : List (Nat × Obj)) (rF : List Snap) (n : Nat) (L : Array Bool → Act → World → Prop) : Nat → Array Bool → Act → World → Prop
  | 0, listed, a, w => L listed a w
  | f + 1, listed, a, w => Region.ready md ops listed ≠ [] ∧ ∀ i ∈ Region.ready md ops listed, i < n ∧ canOpJ P ops oF rF i (wpAnyJ P md ops oF rF n L f (listed.setIfInBounds i true)) a w
theorem wpAnyJ_later {n : Nat} {L : Array Bool → Act → World → Prop} (hL : LaterClosed L) : ∀ (f : Nat) (listed : Array Bool) (a : Act) (w w' : World), Later w w' →
    wpAnyJ P md ops oF rF n L f listed a w → wpAnyJ P md ops oF rF n L f listed a w'
  | 0, _, _, _, _, h, hh => hL _ _ _ _ h hh
  | _ + 1, _, _, _, _, h, hh => ⟨hh.1, fun i hi => ⟨(hh.2 i hi).1, canOpJ_later h (hh.2 i hi).2⟩⟩
theorem wpAny_of_canJ {n g : Nat} {L : Array Bool → Act → World → Prop} {Q' : Exit → Act → World → Prop} (hL : ∀ listed a w, Mem w oF rF → L listed a w → wpAny P md ops Q' g listed a w) :
    ∀ (f : Nat) (listed : Array Bool) (a : Act) (w : World), Mem w oF rF → wpAnyJ P md ops oF rF n L f listed a w → wpAny P md ops Q' (f + g) listed a w
  | 0, listed, a, w, h0, h => by rw [Nat.zero_add]; exact hL _ _ _ h0 h
  | f + 1, listed, a, w, h0, h => by
    rw [show f + 1 + g = (f + g) + 1 by omega]
    refine ⟨fun he => absurd he h.1, fun i hi => ?_⟩
    have h1 := (h.2 i hi).2 w (Later.refl w) h0
    have h2 : wpOp P ops (fun _ _ _ => False) i (wpAny P md ops Q' (f + g) (listed.setIfInBounds i true)) a w :=
      wpOp_mono (fun a' w' h' => wpAny_of_canJ hL f _ a' w' h'.1 h'.2) h1
    unfold wpOp at h2 ⊢
    split
    · rename_i ho; simp only [ho] at h2; exact h2
    · rename_i o ho
      simp only [ho] at h2
      split
      · rename_i hw
        simp only [hw, if_true] at h2
        rcases h2 with h2 | ⟨_, _, _, h2⟩
        · refine .inl ?_
          unfold Oper.wp at h2 ⊢
          generalize (execOp a.eval o).run P w = r at *
          cases r with
          | ok x w' =>
            cases x <;> simp only [Oper.upon] at h2 ⊢ <;> first
              | exact h2
              | (refine Calls.mono h2 fun e w'' he => ?_
                 cases e with
                 | returned u => exact he
                 | panicked c => exact he.elim
                 | outgrown => obtain ⟨_, _, hf⟩ := he; exact hf.elim)
          | halt x w' => cases x <;> simp only [Oper.upon] at h2 ⊢
        · exact h2.elim
      · rename_i hw
        simp only [hw] at h2
        exact h2
def YieldsJ (P : Program) (ops : Array Oper) (oF : List (Nat × Obj)) (rF : List Snap) (o : Oper) (v : Value) (a : Act) : Prop :=
  (Region.wanted o (yielded ops a.tmps) = true ∧ ∀ w', Mem w' oF rF → fltAt P o a w' v) ∨ (Region.wanted o (yielded ops a.tmps) = false ∧ v = undef)
theorem YieldsJ.of_same {o : Oper} {v : Value} {a a' : Act} (hy : YieldsJ P ops oF rF o v a) (he : execOp a'.eval o = execOp a.eval o)
    (hw : Region.wanted o (yielded ops a'.tmps) = Region.wanted o (yielded ops a.tmps)) : YieldsJ P ops oF rF o v a' := by
  unfold YieldsJ fltAt at *
  rw [he, hw]
  exact hy
theorem YieldsJ.canOp {i : Nat} {o : Oper} {v : Value} {a : Act} {w : World} (hi : ops[i]? = some o) (hy : YieldsJ P ops oF rF o v a) {K : Act → World → Prop}
    (h : ∀ w', Later w w' → K (a.put o.dst v) w') : canOpJ P ops oF rF i K a w := by
  intro w' hw' h0
  unfold Go.wpOp
  simp only [hi]
  rcases hy with ⟨hw, hv⟩ | ⟨hw, rfl⟩
  · rw [if_pos hw]
    refine .inl ?_
    have h3 := hv w' h0
    unfold fltAt at h3
    unfold Oper.wp
    generalize (execOp a.eval o).run P w' = r at *
    cases r with
    | ok n w1 =>
      cases n <;> simp only [fltUpon] at h3 <;> simp only [Oper.upon]
      case value u => obtain ⟨rfl, rfl⟩ := h3; exact ⟨h0, h _ hw'⟩
      case skip => obtain ⟨rfl, rfl⟩ := h3; exact ⟨h0, h _ hw'⟩
      case enter f args =>
        obtain ⟨rfl, hc⟩ := h3
        exact hc.mono fun e w2 ⟨he, hl⟩ => by subst he; exact ⟨Mem.later h0 hl, h _ (hw'.trans hl)⟩
    | halt x w1 => simp only [fltUpon] at h3
  · rw [if_neg (by rw [hw]; exact Bool.false_ne_true)]
    exact ⟨h0, h _ hw'⟩
theorem canOp_putJ {j : Nat} {oi oj : Oper} {v : Value} (hj : ops[j]? = some oj) (hap : oi.apart ops oj = true)
    (hsi : ∀ cs b, oi.op ≠ .select cs b) (hsj : ∀ cs b, oj.op ≠ .select cs b) {K : Act → World → Prop} {a : Act} {w : World}
    (hy : YieldsJ P ops oF rF oi v a) (h : canOpJ P ops oF rF j K (a.put oi.dst v) w) :
    canOpJ P ops oF rF j (fun a' w' => YieldsJ P ops oF rF oi v a' ∧ K (a'.put oi.dst v) w') a w := by
  obtain ⟨h1, h2, h3⟩ := Oper.apart_spec hap
  intro w' hw' h0
  have keep : ∀ (a : Act), YieldsJ P ops oF rF oi v a → ∀ u, YieldsJ P ops oF rF oi v (a.put oj.dst u) := fun a hy u =>
    hy.of_same (execOp_put oi hsi a oj.dst u h3) (wanted_put oi a oj.dst u h3)
  have keepD : ∀ d, YieldsJ P ops oF rF oi v { a with defers := d :: a.defers } := fun d => hy.of_same rfl rfl
  have h := h w' hw' h0
  unfold Go.wpOp at *
  simp only [hj] at *
  rw [wanted_put oj a oi.dst v h1] at h
  split
  · rename_i hw
    simp only [hw, if_true] at h
    rcases h with h | ⟨hasks, _, _, hlets⟩
    case inr => exact hlets.elim
    refine .inl ?_
    unfold Oper.wp at *
    rw [execOp_put oj hsj a oi.dst v h1] at h
    generalize (execOp a.eval oj).run P w' = r at *
    cases r with
    | ok n w1 =>
      cases n <;> simp only [Oper.upon] at h ⊢
      case value u => exact ⟨h.1, keep a hy u, by rw [← Act.put_comm a v u h2]; exact h.2⟩
      case skip => exact ⟨h.1, keep a hy _, by rw [← Act.put_comm a v undef h2]; exact h.2⟩
      case defer d =>
        refine ⟨h.1, keep _ (keepD d) _, ?_⟩
        rw [← Act.put_comm _ v undef h2, ← Act.put_defers]
        exact h.2
      case enter f args =>
        refine Calls.mono h fun e w2 he => ?_
        cases e with
        | returned u => exact ⟨he.1, keep a hy u, by rw [← Act.put_comm a v u h2]; exact he.2⟩
        | panicked c => exact he
        | outgrown => exact he
      case row row args => exact Rows.mono h fun u w2 he => ⟨he.1, keep a hy u, by rw [← Act.put_comm a v u h2]; exact he.2⟩
    | halt x w1 =>
      cases x <;> simp only [Oper.upon] at h ⊢
  · rename_i hw
    simp only [hw] at h
    exact ⟨h.1, keep a hy _, by rw [← Act.put_comm a v undef h2]; exact h.2⟩
theorem wpAnyJ_first {n i : Nat} {oi : Oper} {v : Value} {L : Array Bool → Act → World → Prop} (hL : LaterClosed L) (hi : ops[i]? = some oi) (hsel : ∀ (j : Nat) (o : Oper) cs b, ops[j]? = some o → o.op ≠ .select cs b)
    (hnt : ∀ listed, HeadInv md ops n listed → listed.getD i true = false → ∀ j ∈ Region.ready md ops listed, j < n)
    (hdone : ∀ listed a w, L listed a w → ∀ j ∈ Region.ready md ops listed, n ≤ j) (hin : i < n) :
    ∀ (f : Nat) (listed : Array Bool) (a : Act) (w : World), HeadInv md ops n listed →
      (∀ j oj, ops[j]? = some oj → j ≠ i → listed.getD j true = false → (∀ e ∈ oj.after, Region.binds md e = true → e.on ≠ i) → oi.apart ops oj = true) →
      i ∈ Region.ready md ops listed → YieldsJ P ops oF rF oi v a →
      wpAnyJ P md ops oF rF n L f (listed.setIfInBounds i true) (a.put oi.dst v) w → wpAnyJ P md ops oF rF n L (f + 1) listed a w := by
  intro f
  induction f with
  | zero =>
    intro listed a w inv _ hr hy H
    have hun := (mem_ready.1 hr).1
    refine ⟨fun h => (by rw [h] at hr; cases hr), fun j hj => ?_⟩
    have hjn := hnt listed inv hun j hj
    refine ⟨hjn, ?_⟩
    by_cases hji : j = i
    · subst hji; exact hy.canOp hi fun w' hw' => hL _ _ _ _ hw' H
    · have := hdone _ _ _ H j (ready_mono hj hji)
      omega
  | succ f ih =>
    intro listed a w inv hfree hr hy H
    have hun := (mem_ready.1 hr).1
    refine ⟨fun h => (by rw [h] at hr; cases hr), fun j hj => ?_⟩
    have hjn := hnt listed inv hun j hj
    refine ⟨hjn, ?_⟩
    by_cases hji : j = i
    · subst hji; exact hy.canOp hi fun w' hw' => wpAnyJ_later hL _ _ _ _ _ hw' H
    · have h1 := (H.2 j (ready_mono hj hji)).2
      obtain ⟨hjun, oj, hoj, hall⟩ := mem_ready.1 hj
      have hnot : ∀ e ∈ oj.after, Region.binds md e = true → e.on ≠ i := fun e he hb heq => by
        have h1 := hall e he hb
        rw [heq, getD_both hun] at h1
        cases h1
      have h2 := canOp_putJ hoj (hfree j oj hoj hji hjun hnot) (fun cs b => hsel i oi cs b hi) (fun cs b => hsel j oj cs b hoj) hy h1
      have hfree' : ∀ k ok, ops[k]? = some ok → k ≠ i → (listed.setIfInBounds j true).getD k true = false →
          (∀ e ∈ ok.after, Region.binds md e = true → e.on ≠ i) → oi.apart ops ok = true := fun k ok hk hki hun hno => by
        refine hfree k ok hk hki ?_ hno
        by_cases hjk : j = k
        · subst hjk; exact hjun
        · rw [getD_set_ne true hjk] at hun; exact hun
      refine canOpJ_mono (fun a' w' h3 => ih (listed.setIfInBounds j true) a' w' (inv.set hj hjn) hfree' (ready_mono hr (Ne.symm hji)) h3.1 ?_) h2
      rw [Array.setIfInBounds_comm _ _ hji]
      exact h3.2
def wpJ (P : Program) (ops : Array Oper) (oF : List (Nat × Obj)) (rF : List Snap) (K : Act → World → Prop) : Pl → Act → World → Prop
  | .done, a, w => K a w
  | .flt i t, a, w => match ops[i]? with
    | none => False
    | some o => if Region.wanted o (yielded ops a.tmps) then ∃ v, (∀ w', Mem w' oF rF → fltAt P o a w' v) ∧ wpJ P ops oF rF K t (a.put o.dst v) w else wpJ P ops oF rF K t (a.put o.dst undef) w
  | .gr i t e, a, w => (match ops[i]? with
    | none => False
    | some o => if Region.wanted o (yielded ops a.tmps) then ∀ w', Later w w' → o.wp P a w' (fun a'' w'' => Mem w'' oF rF ∧ wpJ P ops oF rF K t a'' w'') (fun _ _ _ => False) else wpJ P ops oF rF K t (a.put o.dst undef) w) ∧ wpJ P ops oF rF K e a w
  | .nil, _, _ => True
theorem wpAnyJ_tree {n : Nat} {Q : Act → World → Prop} (hQ : ∀ a w w', Later w w' → Q a w → Q a w') (hsel : Region.noSelect ops = true)
    (hnt : ∀ i, i < n → ∀ listed, HeadInv md ops n listed → listed.getD i true = false → ∀ j ∈ Region.ready md ops listed, j < n) :
    ∀ (t : Pl) (f : Nat) (listed : Array Bool) (a : Act) (w : World), HeadInv md ops n listed →
      (treeB md ops n false f t listed = true → wpJ P ops oF rF Q t a w → wpAnyJ P md ops oF rF n (fun listed' a' w' => Region.seqB md ops (ops.size - n) n listed' = true ∧ Q a' w') f listed a w) ∧
      (treeB md ops n true f t listed = true → wpJ P ops oF rF Q t a w → ∀ j ∈ t.heads, j ∈ Region.ready md ops listed → 0 < f ∧ j < n ∧ canOpJ P ops oF rF j (wpAnyJ P md ops oF rF n (fun listed' a' w' => Region.seqB md ops (ops.size - n) n listed' = true ∧ Q a' w') (f - 1) (listed.setIfInBounds j true)) a w)
  | .done, f, listed, a, w, _ => ⟨fun hB h => by
      simp only [treeB, Bool.and_eq_true, decide_eq_true_eq] at hB
      obtain ⟨⟨_, rfl⟩, hB⟩ := hB
      exact ⟨hB, h⟩, fun hB => by simp [treeB] at hB⟩
  | .flt i t, f, listed, a, w, inv => ⟨fun hB h => by
      simp only [treeB, Bool.and_eq_true, decide_eq_true_eq] at hB
      obtain ⟨⟨⟨⟨⟨_, hf⟩, hin⟩, hr⟩, hfr⟩, hB'⟩ := hB
      obtain ⟨g, rfl⟩ : ∃ g, f = g + 1 := ⟨f - 1, by omega⟩
      have hr' : i ∈ Region.ready md ops listed := by simpa using hr
      unfold wpJ at h
      cases ho : ops[i]? with
      | none => simp only [ho] at h
      | some o =>
        simp only [ho] at h
        obtain ⟨v, hy, hK⟩ : ∃ v, YieldsJ P ops oF rF o v a ∧ wpJ P ops oF rF Q t (a.put o.dst v) w := by
          by_cases hw : Region.wanted o (yielded ops a.tmps) = true
          · rw [if_pos hw] at h
            obtain ⟨v, h1, h2⟩ := h
            exact ⟨v, .inl ⟨hw, h1⟩, h2⟩
          · rw [if_neg hw] at h
            exact ⟨undef, .inr ⟨by simpa using hw, rfl⟩, h⟩
        exact wpAnyJ_first (fun _ _ _ _ hw hq => ⟨hq.1, hQ _ _ _ hw hq.2⟩) ho (Region.noSelect_spec hsel) (hnt i hin) (fun _ _ _ hL => seqB_ready hL.1) hin g listed a w inv (Region.free_spec ho hfr) hr' hy
          ((wpAnyJ_tree hQ hsel hnt t g _ _ _ (inv.set hr' hin)).1 (by simpa using hB') hK), fun hB => by simp [treeB] at hB⟩
  | .gr i t e, f, listed, a, w, inv => by
      have alt : ∀ alt, treeB md ops n alt f (.gr i t e) listed = true → wpJ P ops oF rF Q (.gr i t e) a w → ∀ j ∈ (Pl.gr i t e).heads, j ∈ Region.ready md ops listed → 0 < f ∧ j < n ∧ canOpJ P ops oF rF j (wpAnyJ P md ops oF rF n (fun listed' a' w' => Region.seqB md ops (ops.size - n) n listed' = true ∧ Q a' w') (f - 1) (listed.setIfInBounds j true)) a w := by
        intro alt hB h j hj hjr
        simp only [treeB, Bool.and_eq_true, decide_eq_true_eq] at hB
        obtain ⟨⟨⟨⟨_, hf⟩, hin⟩, hB1⟩, hB2⟩ := hB
        unfold wpJ at h
        obtain ⟨h1, h2⟩ := h
        simp only [Pl.heads, List.mem_cons] at hj
        by_cases hji : j = i
        · subst hji
          refine ⟨hf, hin, fun w' hw' h0 => ?_⟩
          cases ho : ops[j]? with
          | none => simp only [ho] at h1
          | some o =>
            simp only [ho] at h1
            unfold wpOp
            simp only [ho]
            by_cases hw : Region.wanted o (yielded ops a.tmps) = true
            · rw [if_pos hw] at h1 ⊢
              exact .inl (Oper.wp_mono (fun a' w2 hk => ⟨hk.1, (wpAnyJ_tree hQ hsel hnt t _ _ _ _ (inv.set hjr hin)).1 hB1 hk.2⟩) (h1 w' hw'))
            · rw [if_neg hw] at h1 ⊢
              exact ⟨h0, wpAnyJ_later (fun _ _ _ _ hw hq => ⟨hq.1, hQ _ _ _ hw hq.2⟩) _ _ _ _ _ hw' ((wpAnyJ_tree hQ hsel hnt t _ _ _ _ (inv.set hjr hin)).1 hB1 h1)⟩
        · have hj' : j ∈ e.heads := by rcases hj with h | h; exact absurd h hji; exact h
          exact (wpAnyJ_tree hQ hsel hnt e f listed a w inv).2 hB2 h2 j hj' hjr
      refine ⟨fun hB h => ?_, alt true⟩
      have hB0 := hB
      simp only [treeB, Bool.and_eq_true, decide_eq_true_eq, Bool.false_or] at hB
      obtain ⟨⟨⟨⟨⟨hall, hne⟩, hf⟩, _⟩, _⟩, _⟩ := hB
      obtain ⟨g, rfl⟩ : ∃ g, f = g + 1 := ⟨f - 1, by omega⟩
      refine ⟨fun h0 => by rw [h0] at hne; simp at hne, fun j hj => ?_⟩
      have hjh : j ∈ (Pl.gr i t e).heads := by simpa using List.all_eq_true.1 hall j hj
      exact (alt false hB0 h j hjh hj).2
  | .nil, f, listed, a, w, _ => ⟨fun hB => by simp [treeB] at hB, fun _ _ j hj => by simp [Pl.heads] at hj⟩
theorem wp_region_inv {id : Nat} {Q : Exit → Act → World → Prop} {a : Act} {w : World} {l : List Oper} (n : Nat) (t : Pl) (hm : P.follows .mixedOrders = true)
    (hB : (Region.noSelect l.toArray && (decide (n = l.toArray.size) || (decide (n < l.toArray.size) && Region.sinkB .any l.toArray n && Region.chainB .any l.toArray n)) && treeB .any l.toArray n false n t (Array.replicate l.toArray.size false)) = true)
    (hw : Mem w oF rF) (h : wpJ P l.toArray oF rF (fun a' w' => ∀ w'', Later w' w'' → wpList P l.toArray Q (l.drop n) a' w'') t a w) : (Code.region id l.toArray true).wp P Q a w := by
  simp only [Bool.and_eq_true] at hB
  obtain ⟨⟨hsel, hn⟩, hpl⟩ := hB
  have hnle : n ≤ l.toArray.size := by
    rcases Bool.or_eq_true _ _ ▸ hn with hn | hn
    · simp only [decide_eq_true_eq] at hn; omega
    · simp only [Bool.and_eq_true, decide_eq_true_eq] at hn; omega
  have hnt : ∀ i, i < n → ∀ listed, HeadInv .any l.toArray n listed → listed.getD i true = false → ∀ j ∈ Region.ready .any l.toArray listed, j < n := by
    intro i hin listed inv hun j hj
    rcases Bool.or_eq_true _ _ ▸ hn with hn | hn
    · simp only [decide_eq_true_eq] at hn
      have := ready_lt j hj
      omega
    · simp only [Bool.and_eq_true, decide_eq_true_eq] at hn
      obtain ⟨⟨hn, hs⟩, hc⟩ := hn
      rcases Nat.lt_or_ge j n with h | h
      · exact h
      · exact absurd hj (tail_waits hs hc hn inv _ i rfl hin hun j h)
  have inv0 : HeadInv .any l.toArray n (Array.replicate l.toArray.size false) :=
    ⟨by simp, fun j oj _ hl => (by rw [getD_replicate_false] at hl; cases hl), fun t _ ht => getD_in (by simpa using ht) (getD_replicate_false _ _)⟩
  have H := (wpAnyJ_tree (P := P) (md := .any) (oF := oF) (rF := rF) (Q := fun a' w' => ∀ w'', Later w' w'' → wpList P l.toArray Q (l.drop n) a' w'') (fun a w w' hw hq w'' hw'' => hq w'' (hw.trans hw'')) hsel hnt t n _ a w inv0).1 hpl h
  refine wp_region_any hm ?_
  have hdl : (l.drop n).length = l.toArray.size - n := by simp
  have := wpAny_of_canJ (Q' := Q) (g := l.toArray.size - n) (oF := oF) (rF := rF) (fun listed a' w' _ hL => by
    have := wpAny_of_seq (md := .any) (Q' := Q) (l.drop n) n listed a' w' (fun j => by simp [List.getElem?_drop]) (by rw [hdl]; exact hL.1) (hL.2 w' (Later.refl _))
    rwa [hdl] at this) _ _ _ _ (hw.later (Later.drew w)) (wpAnyJ_later (fun _ _ _ _ hw hq => ⟨hq.1, fun w2 h2 => hq.2 w2 (hw.trans h2)⟩) _ _ _ _ _ (Later.drew w) H)
  rw [show n + (l.toArray.size - n) = l.toArray.size by omega] at this
  exact this
end
section
variable {P : Program} {n : Nat} {l : List (Nat × Value)} {own oF : List (Nat × Obj)} {ro : List Snap} {lops : List Oper} {Q : Exit → Act → World → Prop} {K : Act → World → Prop} {i d : Nat} {t e : Pl} {op : Op} {ty : TypeId} {pos : String} {af : Array Edge}
/-- A region that draws its order and turns blocks of the call's own: oF are those that it lets alone. -/
theorem rg_inv {id : Nat} {Q : Exit → Act → World → Prop} (oF : List (Nat × Obj)) (m : Nat) (t : Pl) (hsub : oF.Sublist own) (hm : P.follows .mixedOrders = true)
    (hB : (Region.noSelect lops.toArray && (decide (m = lops.toArray.size) || (decide (m < lops.toArray.size) && Region.sinkB .any lops.toArray m && Region.chainB .any lops.toArray m)) && treeB .any lops.toArray m false m t (Array.replicate lops.toArray.size false)) = true)
    (h : S (wpJ P lops.toArray oF ro (fun a' w' => ∀ w'', Later w' w'' → wpList P lops.toArray Q (lops.drop m) a' w'') t) n l own ro) : W P (.region id lops.toArray true) Q n l own ro :=
  fun a w ha hw => wp_region_inv m t hm hB (hw.less hsub (fun _ h => h)) (h a w ha hw)
theorem j_run {o : Oper} (ho : lops[i]? = some o) (hgo : Go_ lops n l o) (hd0 : o.dst = some d) (hd : decide (d < n) = true) {v : Value} (hv : OpV P n l oF ro o.op o.type v)
    (h : S (wpJ P lops.toArray oF ro K t) n ((d, v) :: l) own ro) : S (wpJ P lops.toArray oF ro K (.flt i t)) n l own ro := fun a w ha hw => by
  have hd' : d < n := of_decide_eq_true hd
  unfold wpJ
  simp only [List.getElem?_toArray, ho]
  rw [if_pos (hgo a ha)]
  refine ⟨v, fun w' hw' => ?_, by rw [hd0]; exact h _ w (ha.put v hd') hw⟩
  unfold fltAt
  rw [hv a w' _ ha hw' rfl rfl]
  exact ⟨rfl, rfl⟩
theorem j_val (ho : lops[i]? = some ⟨some d, op, ty, pos, af, none⟩) (hd : decide (d < n) = true) {v : Value} (hv : OpV P n l oF ro op ty v)
    (h : S (wpJ P lops.toArray oF ro K t) n ((d, v) :: l) own ro) : S (wpJ P lops.toArray oF ro K (.flt i t)) n l own ro := j_run ho (go_none rfl) rfl hd hv h
theorem j_bool (ho : lops[i]? = some ⟨some d, op, ty, pos, af, none⟩) (hd : decide (d < n) = true) {b : Bool} (hv : OpV P n l oF ro op ty (.bool b))
    (h : ∀ c, c = b → S (wpJ P lops.toArray oF ro K t) n ((d, .bool c) :: l) own ro) : S (wpJ P lops.toArray oF ro K (.flt i t)) n l own ro := j_val ho hd hv (h b rfl)
theorem j_callv {f : FuncId} {fn : Func} {xs : Array Operand} {tys : Array TypeId} {vs : List Value} (ho : lops[i]? = some ⟨some d, .call ⟨.value (.func f), xs, tys⟩, ty, pos, af, none⟩) (hd : decide (d < n) = true)
    (hf : P.funcs[f]? = some fn) (hbody : (!(fn.name == "runtime.NumGoroutine") && fn.body.isSome) = true) (hx : evs l xs.toList = some vs) {v : Value}
    (hc : ∀ w, Mem w oF ro → Calls P f vs.toArray w fun e w' => e = .returned v ∧ Later w w')
    (h : S (wpJ P lops.toArray oF ro K t) n ((d, v) :: l) own ro) : S (wpJ P lops.toArray oF ro K (.flt i t)) n l own ro := fun a w ha hw => by
  have hd' : d < n := of_decide_eq_true hd
  unfold wpJ
  simp only [List.getElem?_toArray, ho]
  rw [if_pos (go_none (lops := lops) (n := n) (l := l) (o := ⟨some d, .call ⟨.value (.func f), xs, tys⟩, ty, pos, af, none⟩) rfl a ha)]
  refine ⟨v, fun w' hw' => ?_, h _ w (ha.put v hd') hw⟩
  unfold fltAt
  rw [run_callv (c := .func f) (fst := #[]) (cap := #[]) rfl ha rfl hf hbody hx]
  have := hc w' hw'
  exact ⟨rfl, by simpa using this⟩
/-- An operation that turns a block, or makes one. -/
theorem j_gr (h : WX P lops.toArray (fun _ _ _ => False) (fun a w => Mem w oF ro ∧ wpJ P lops.toArray oF ro K t a w) [(none, i)] n l own ro) (he : S (wpJ P lops.toArray oF ro K e) n l own ro) : S (wpJ P lops.toArray oF ro K (.gr i t e)) n l own ro := fun a w ha hw => by
  have h := h a w ha hw
  unfold wpJ
  refine ⟨?_, he a w ha hw⟩
  simp only [wpX] at h
  split <;> rename_i ho <;> simp only [ho] at h
  split <;> rename_i hw'
  · intro w2 h2
    have h := h w2 h2
    rw [if_pos hw'] at h
    exact Oper.wp_mono (fun a' w' hk => hk w' (Later.refl _)) h
  · have h := h w (Later.refl _)
    rw [if_neg hw'] at h
    exact (h w (Later.refl _)).2
theorem j_end (hsub : oF.Sublist own) (h : S (wpJ P lops.toArray oF ro K t) n l own ro) : S (fun a w => Mem w oF ro ∧ wpJ P lops.toArray oF ro K t a w) n l own ro := fun a w ha hw => ⟨hw.less hsub (fun _ h => h), h a w ha hw⟩
theorem j_nil : S (wpJ P lops.toArray oF ro K .nil) n l own ro := fun _ _ _ _ => trivial
theorem j_done {m : Nat} (h : WX P lops.toArray Q (fun a w => Q .normal a w) (tailFrom m lops.length) n l own ro) :
    S (wpJ P lops.toArray oF ro (fun a' w' => ∀ w'', Later w' w'' → wpList P lops.toArray Q (lops.drop m) a' w'') .done) n l own ro :=
  fun a w ha hw w2 h2 => wpList_of_X _ m a w2 rfl (wpX_later h2 (h a w ha hw))
end
end Go.PK

/- Of the proofs of YtffdbbcmibamjaaDoor; see NOTES.md. -/
/-! Small arrays among the arguments of a law. -/
namespace Go.PK
open Go Go.RowKit
set_option linter.unusedVariables false
section
variable {P : Program} {H : Type} {enc : TypeId × Value → H} {W : World} {base b0 : Nat} {sp : Nat → Bool} {held : Bool} {r : Reach} {t e : TypeId} {v : Value} {d : DataW H} {ps : List MemPlace}
theorem top_kn {k : IntKind} {n : Nat} (ht : P.underlying t = some (.array n e)) (hc : P.cellsOf t = n) (hn : 0 < n) (he : P.underlying e = some (.int k)) (hce : P.cellsOf e = 1) (hval : Value.okWide P W r b0 t v) (h : DataW.Trod enc P W base sp held t v d ps) :
    ∃ xs : List Int, v = .agg (xs.map (Value.int k)).toArray ∧ xs.length = n ∧ ∀ x ∈ xs, k.min ≤ x ∧ x ≤ k.max := by
  obtain ⟨cs, xs, rfl, hrd⟩ := top_agg ht rfl (rdr_arr (T := tyK k) ht (by rw [hc]; exact (Nat.mul_one n).symm) hn (rdr_k he hce)) hval h
  obtain ⟨h1, h2, h3⟩ := arr_k hrd
  exact ⟨xs, by rw [← h1], h2, h3⟩
theorem top_k2 {k : IntKind} (ht : P.underlying t = some (.array 2 e)) (hc : P.cellsOf t = 2) (he : P.underlying e = some (.int k)) (hce : P.cellsOf e = 1) (hval : Value.okWide P W r b0 t v) (h : DataW.Trod enc P W base sp held t v d ps) :
    ∃ a b : Int, v = .agg #[.int k a, .int k b] ∧ (k.min ≤ a ∧ a ≤ k.max) ∧ k.min ≤ b ∧ b ≤ k.max := by
  obtain ⟨xs, rfl, hl, hx⟩ := top_kn ht hc (by decide) he hce hval h
  match xs, hl with
  | [a, b], _ => exact ⟨a, b, rfl, hx a (by simp), hx b (by simp)⟩
theorem top_k3 {k : IntKind} (ht : P.underlying t = some (.array 3 e)) (hc : P.cellsOf t = 3) (he : P.underlying e = some (.int k)) (hce : P.cellsOf e = 1) (hval : Value.okWide P W r b0 t v) (h : DataW.Trod enc P W base sp held t v d ps) :
    ∃ a b c : Int, v = .agg #[.int k a, .int k b, .int k c] ∧ (k.min ≤ a ∧ a ≤ k.max) ∧ (k.min ≤ b ∧ b ≤ k.max) ∧ k.min ≤ c ∧ c ≤ k.max := by
  obtain ⟨xs, rfl, hl, hx⟩ := top_kn ht hc (by decide) he hce hval h
  match xs, hl with
  | [a, b, c], _ => exact ⟨a, b, c, rfl, hx a (by simp), hx b (by simp), hx c (by simp)⟩
theorem top_k4 {k : IntKind} (ht : P.underlying t = some (.array 4 e)) (hc : P.cellsOf t = 4) (he : P.underlying e = some (.int k)) (hce : P.cellsOf e = 1) (hval : Value.okWide P W r b0 t v) (h : DataW.Trod enc P W base sp held t v d ps) :
    ∃ a b c f : Int, v = .agg #[.int k a, .int k b, .int k c, .int k f] ∧ (k.min ≤ a ∧ a ≤ k.max) ∧ (k.min ≤ b ∧ b ≤ k.max) ∧ (k.min ≤ c ∧ c ≤ k.max) ∧ k.min ≤ f ∧ f ≤ k.max := by
  obtain ⟨xs, rfl, hl, hx⟩ := top_kn ht hc (by decide) he hce hval h
  match xs, hl with
  | [a, b, c, f], _ => exact ⟨a, b, c, f, rfl, hx a (by simp), hx b (by simp), hx c (by simp), hx f (by simp)⟩
end
end Go.PK
