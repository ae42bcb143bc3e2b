/- Of the proofs of YtffdbbcmibamjaaDoor: Wk Wl Wm Wn Wo Wp Wq Wr Ws Wt Wu Wv Ww, put together. -/
import Derived.Test.YtffdbbcmibamjaaDoorM3
import Derived.Test.YtffdbbcmibamjaaDoorM2
import Derived.Test.YtffdbbcmibamjaaDoorShelf
import Derived.Lib.AtoiErrMem
import Derived.Lib.SmallJoins
import Derived.Lay
import Derived.LaidSub
import Derived.Lib.LaidTab
import Derived.Stop.LaidErr
import Derived.Deep.DeepHandedRow
import Derived.SevenTiedAt
import Derived.Test.YtffdbbcmibamjaaDoorM1
namespace Go.Proofs.YtffdbbcmibamjaaDoor
open Go.RowKit Go.PK
set_option linter.unusedVariables false
set_option linter.unusedSimpArgs false

/-- The variables of the library that the calls read. -/
structure LD (w : World) : Prop where
  tab : Lib.TabIs Tryd.prog w "internal/strconv.uint64pow10" .u64 Lib.pow10Tab
  syn : ∃ tp p, w.var? Tryd.prog "strconv.ErrSyntax" = some #[.iface tp p]
theorem LD.later {w w' : World} (h : LD w) (hl : Later w w') : LD w' := by
  obtain ⟨h1, tp, p, h2⟩ := h
  exact ⟨Joins.tab_stays (g := Tryd.prog.globalNamed "internal/strconv.uint64pow10" |>.getD 0) (by kernel_rfl) h1 hl (Nat.le_refl _), tp, p, Joins.var_stays (g := Tryd.prog.globalNamed "strconv.ErrSyntax" |>.getD 0) (by kernel_rfl) h2 hl (Nat.le_refl _)⟩
theorem c50 (n : Int) (w : World) (hn : in64 n) (hL : LD w) :
    Calls Tryd.prog 50 #[.int .i64 n] w fun e w' => e = .returned (.string ⟨(Lib.itoa n).toArray⟩) ∧ Later w w' :=
  (Tryd.strconv_Itoa n hn.1 hn.2 w hL.tab).mono fun e w' ⟨h1, k, os, h2⟩ => ⟨h1, by rw [h2]; exact later_grow w k os⟩
/-- strconv.Atoi's number. -/
def numO (s : ByteArray) : Int := (Lib.atoi s.data.toList).getD 0
theorem c42 (s : ByteArray) (w : World) (hs : s.size ≤ 18) (hL : LD w) :
    Calls Tryd.prog 42 #[.string s] w fun e w' => ∃ v, e = .returned v ∧ Later w w' ∧ ∃ ev, v = .tuple #[.int .i64 (numO s), ev] := by
  cases h : Lib.atoi s.data.toList with
  | none =>
    obtain ⟨_, tp, p, h2⟩ := hL
    refine (Tryd.strconv_Atoi_err_var s hs h tp p w h2).mono fun e w' ⟨N, h1, _, _, h3⟩ => ⟨_, h1, h3, .iface 68 (.pointer (some ⟨N, 0, none⟩)), ?_⟩
    rw [show numO s = 0 from by unfold numO; rw [h]; rfl]
  | some n =>
    refine (Tryd.strconv_Atoi s n hs h w).mono fun e w' ⟨h1, t, h2⟩ => ⟨_, h1, by rw [h2]; exact Lib.bytesWorld_below w _ t, .nilIface, ?_⟩
    rw [show numO s = n from by unfold numO; rw [h]; rfl]
theorem c44 {w : World} {own : List (Nat × Obj)} {ro : List Snap} {D : Nat → Prop} {v : Value} {ds : List Int} (hm : Mem w own ro) (h : sliceRd tyI D w v ds) (hl : ds.length ≤ 20) :
    Calls Tryd.prog 44 #[v] w fun e w' => ∃ r, e = .returned (rowV r ds.length) ∧ Later w w' ∧ rowOK 1 r ds.length (ds.map (Value.int .i64)) ∧ Mem w' (rowO 3 r ++ own) ro := by
  have h' := h
  obtain ⟨A, c, rfl, h1, h2, h3⟩ := h
  have fin : ∀ v' w', w'.ownsRow w.heap.size 3 1 v' ds.length (ds.map (Value.int .i64)) → Later w w' → ∃ r, Ending.returned v' = .returned (rowV r ds.length) ∧ Later w w' ∧ rowOK 1 r ds.length (ds.map (Value.int .i64)) ∧ Mem w' (rowO 3 r ++ own) ro := fun v' w' ho hb => by
    obtain ⟨r, e1, e2, e3⟩ := hm.ofRow hb (Nat.le_refl _) ho
    exact ⟨r, by rw [e1], hb, e2, e3⟩
  by_cases h0 : ds = []
  · subst h0
    cases A with
    | none => exact (Tryd.slices_Clone_int_nil 0 c w).mono fun e w' ⟨e1, e2⟩ => ⟨none, e1, by rw [e2]; exact Later.refl w, rowOK_nil, by rw [e2]; exact hm⟩
    | some a => exact (Tryd.slices_Clone_int_zero a c w).mono fun e w' ⟨v', e1, e2, _, e3⟩ => by subst e1; exact fin v' w' e2 e3
  · have hp : 0 < ds.length := List.length_pos_iff.2 h0
    obtain ⟨b, off, rfl, _⟩ := int_at h' hp
    refine (Tryd.slices_Clone_int b off ds.length c ds w (Nat.le_refl _) (by omega) (fun j hj => ?_)).mono fun e w' ⟨v', e1, e2, _, e3⟩ => ?_
    · obtain ⟨b', off', hA, _, hc, _⟩ := int_at h' hj
      injection hA with hA
      injection hA with hb ho
      subst hb; subst ho
      rw [hc, List.getD_eq_getElem?_getD, List.getElem?_eq_getElem hj]; rfl
    · subst e1
      rw [List.take_length] at e2
      exact fin v' w' e2 e3
theorem row_holds {w : World} {own : List (Nat × Obj)} {ro : List Snap} {b c : Nat} {cs : List Value} {zs : List Int} (hm : Mem w (rowO 3 (some (b, cs, c)) ++ own) ro) (h : rowOK 1 (some (b, cs, c)) zs.length (zs.map (Value.int .i64))) :
    Sort.Holds (Value.int .i64) w b 0 zs.toArray := fun j hj => by
  have hj' : j < zs.length := by simpa using hj
  obtain ⟨_, h3, h4, h5, h6⟩ := h
  have hb : w.heap[b]? = some (.cells cs.toArray 3 (0, 0)) := hm.own_at (b, _) (by simp [rowO])
  refine ⟨?_, ?_⟩
  · rw [hm.cell_own (cs := cs.toArray) (t := 3) (fz := (0, 0)) (by simp [rowO]) (0 + j)]
    have : (cs.take (zs.length * 1))[j]? = (zs.map (Value.int .i64))[j]? := by rw [h6]
    rw [List.getElem?_take, if_pos (by omega), List.getElem?_map, List.getElem?_eq_getElem hj'] at this
    simp only [Nat.zero_add, List.getElem?_toArray, this]
    simp [getElem!_pos, hj']
  · simp only [World.frozen?, hb]; simp
theorem c45 {w : World} {own : List (Nat × Obj)} {ro : List Snap} {r : RowS} {zs : List Int} (hz : zs.length ≤ 20) (hm : Mem w (rowO 3 r ++ own) ro) (h : rowOK 1 r zs.length (zs.map (Value.int .i64))) :
    Calls Tryd.prog 45 #[rowV r zs.length] w fun e w' => e = .returned (.tuple #[]) ∧ ∃ r', (rowA r' = rowA r ∧ rowC r' = rowC r ∧ rowOK 1 r' zs.length ((srt zs).map (Value.int .i64))) ∧ Mem w' (rowO 3 r' ++ own) ro := by
  cases r with
  | none =>
    have h0 : zs = [] := List.eq_nil_of_length_eq_zero h.2
    subst h0
    exact (Tryd.slices_Sort_int_none none 0 w).mono fun e w' ⟨e1, e2⟩ => ⟨e1, none, ⟨rfl, rfl, by simpa [srt] using h⟩, by rw [e2]; exact hm⟩
  | some x =>
    obtain ⟨b, cs, c⟩ := x
    have hl := h
    obtain ⟨h0, h3, h4, h5, h6⟩ := hl
    dsimp only at h3 h4 h5 h6
    have hH := row_holds hm h
    refine (Tryd.slices_Sort_int b 0 c zs w hH (hm.lt (p := (b, .cells cs.toArray 3 (0, 0))) (by simp [rowO])) (by omega)).mono fun e w' ⟨e1, q, os, e2⟩ => ⟨e1, some (b, turnL (srt zs) cs, c), ⟨rfl, rfl, ?_⟩, ?_⟩
    · have := srt_len zs
      refine ⟨by simp [this], h3, h4, by rw [turnL_len]; exact h5, ?_⟩
      rw [turnL_take (by omega) (by omega), List.take_of_length_le (by omega)]
    · rw [e2]; exact hm.turnRow
theorem compact_le (zs : List Int) : (Lib.compact zs).length ≤ zs.length := by
  unfold Lib.compact Lib.compactUpTo
  rw [List.length_map]
  refine Nat.le_trans (List.length_filter_le _ _) ?_
  rw [List.length_range]
  exact Nat.le_refl _
theorem c46 {w : World} {own : List (Nat × Obj)} {ro : List Snap} {r : RowS} {zs : List Int} (hz : zs.length ≤ 20) (hm : Mem w (rowO 3 r ++ own) ro) (h : rowOK 1 r zs.length (zs.map (Value.int .i64))) :
    Calls Tryd.prog 46 #[rowV r zs.length] w fun e w' => e = .returned (.slice (rowA r) (Lib.compact zs).length (rowC r)) ∧ ∃ r', (rowA r' = rowA r ∧ rowC r' = rowC r ∧ rowOK 1 r' (Lib.compact zs).length ((Lib.compact zs).map (Value.int .i64))) ∧ Mem w' (rowO 3 r' ++ own) ro := by
  cases r with
  | none =>
    have h0 : zs = [] := List.eq_nil_of_length_eq_zero h.2
    subst h0
    exact (Tryd.slices_Compact_int_empty none 0 w).mono fun e w' ⟨e1, e2⟩ => ⟨e1, none, ⟨rfl, rfl, h⟩, by rw [e2]; exact hm⟩
  | some x =>
    obtain ⟨b, cs, c⟩ := x
    have hl := h
    obtain ⟨h0, h3, h4, h5, h6⟩ := hl
    dsimp only at h3 h4 h5 h6
    have hH := row_holds hm h
    have hcl := compact_le zs
    refine (Tryd.slices_Compact_int b 0 c zs w hH (by omega) h3).mono fun e w' ⟨e1, q, e2⟩ => ⟨e1, some (b, turnL (Lib.compact zs ++ List.replicate (zs.length - (Lib.compact zs).length) 0) cs, c), ⟨rfl, rfl, ?_⟩, ?_⟩
    · refine ⟨by simp, by dsimp only; omega, h4, by rw [turnL_len]; exact h5, ?_⟩
      rw [turnL_take (by simp; omega) (by simp), List.take_append_of_le_length (by omega), List.take_of_length_le (by omega)]
    · rw [e2, ← Sort.grow_empty (Sort.putRow _ _ _ _ _)]; exact hm.turnRow
set_option maxRecDepth 100000 in
theorem c38 (n : Int) (m : Nat) (w : World) (h0 : 0 ≤ n) (h : n < 10 ^ m) (hm : 1 ≤ m ∧ m ≤ 4) (hL : LD w) :
    Calls Tryd.prog 38 #[.int .i64 n, .int .i64 (m : Nat)] w fun e w' => e = .returned (.string (lowD n m)) ∧ Later w w' := by
  obtain ⟨i0, i1, i2, i3, i4⟩ := itoa_low h0 h hm.1
  have hn : in64 n := by have := pow10_le hm.2; unfold in64; omega
  refine enter (vs := [.int .i64 n, .int .i64 (m : Nat)]) Tryd.func38 rfl Tryd.ntmps38 rfl ?_
  refine w_seq ?_
  refine rg_text ?_
  refine x_val rfl rfl rfl (v_assign rfl) ?_
  refine x_end ?_
  refine t_norm ?_
  refine w_seq ?_
  refine rg_text ?_
  refine x_val rfl rfl rfl (v_move rfl) ?_
  refine x_callv (v := Value.string (lowD n i0)) rfl rfl rfl Tryd.func50 (by kernel_rfl) rfl (fun w1 hw1 => by rw [← i4]; exact c50 _ w1 hn (hL.later (hw1.base (by simp)))) ?_
  
  refine x_val rfl rfl rfl (v_assign rfl) ?_
  refine x_end ?_
  refine t_norm ?_
  refine w_seq ?_
  refine w_block ?_
  refine w_loop (σ := Nat) (fun i => 1 ≤ i ∧ i ≤ m ∧ n < 10 ^ i) (fun i => [(1, Value.int .i64 (m : Nat)), (5, Value.string (lowD n i))]) (fun i => []) (fun i => [(w, fun _ => True)]) (fun i => m - i) (i0) (⟨i1, i2, i3⟩) (l_start (by repeat (first | exact Sub.nil | refine Sub.cons rfl ?_)) (fun _ h => h)) ?_
  rintro i ⟨hi1, hi2, hi3⟩
  refine w_state ([(1, Value.int .i64 (m : Nat)), (5, Value.string (lowD n i))]) ([]) ([(w, fun _ => True)]) ?_
  have hsz : (lowD n i).size = i := lowD_size n i
  refine w_seq ?_
  refine w_seq ?_
  refine rg_text ?_
  refine x_val rfl rfl rfl (v_move rfl) ?_
  refine x_val rfl rfl rfl (v_len_str Tryd.underlying9 rfl) ?_
  refine x_val rfl rfl rfl (v_move rfl) ?_
  refine x_bool rfl rfl rfl (v_lss rfl rfl) ?_
  intro b11 hb11
  refine x_end ?_
  refine t_norm ?_
  refine w_cond rfl (fun hc11 => ?_) (fun hc11 => ?_)
  · simp only [hb11, decide_eq_true_eq, decide_eq_false_iff_not, Bool.and_eq_true, Bool.or_eq_true, Bool.and_eq_false_iff, Bool.or_eq_false_iff, Bool.not_eq_true', Bool.not_eq_false', ne_eq, Decidable.not_not] at hc11
    refine w_skip ?_
    refine t_norm ?_
    refine w_block ?_
    refine rg_text ?_
    refine x_val rfl rfl rfl (v_move rfl) ?_
    refine x_val rfl rfl rfl (v_sadd rfl rfl (by rw [hsz]; show 1 + i ≤ _; omega)) ?_
    
    refine x_val rfl rfl rfl (v_assign rfl) ?_
    refine x_end ?_
    refine b_norm ?_
    rw [← lowD_pad h0 hi3]
    exact l_norm (i + 1) ⟨by omega, by omega, by have := pow10_pos i; rw [Int.pow_succ]; omega⟩ (by omega) (by repeat (first | exact Sub.nil | refine Sub.cons rfl ?_)) (fun _ h => h)
  · simp only [hb11, decide_eq_true_eq, decide_eq_false_iff_not, Bool.and_eq_true, Bool.or_eq_true, Bool.and_eq_false_iff, Bool.or_eq_false_iff, Bool.not_eq_true', Bool.not_eq_false', ne_eq, Decidable.not_not] at hc11
    refine w_exit ?_
    refine t_exit ?_
    refine t_exit ?_
    refine b_hit ?_
    refine t_norm ?_
    refine w_seq ?_
    refine rg_text ?_
    refine x_val rfl rfl rfl (v_move rfl) ?_
    refine x_val rfl rfl rfl (v_assign rfl) ?_
    refine x_end ?_
    refine t_norm ?_
    refine w_ret ?_
    refine ret1 rfl rfl (fun w' hm => ⟨?_, hm.base (by simp)⟩)
    rw [show i = m by omega]

end Go.Proofs.YtffdbbcmibamjaaDoor

namespace Go.Proofs.YtffdbbcmibamjaaDoor
open Go.RowKit Go.PK
set_option linter.unusedVariables false
set_option linter.unusedSimpArgs false

theorem decFrom_lt : ∀ (l : List UInt8) (acc n : Nat), Lib.decFrom acc l = some n → n + 1 ≤ (acc + 1) * 10 ^ l.length
  | [], acc, n, h => by
    simp only [Lib.decFrom, Option.some.injEq] at h
    subst h
    simp
  | c :: l, acc, n, h => by
    unfold Lib.decFrom Lib.digitVal at h
    split at h
    · rename_i d hd
      split at hd
      · rename_i hc
        simp only [Option.some.injEq] at hd
        have ih := decFrom_lt l _ n h
        have h2 : acc * 10 + d + 1 ≤ (acc + 1) * 10 := by omega
        rw [List.length_cons, Nat.pow_succ, Nat.mul_comm (10 ^ l.length), ← Nat.mul_assoc]
        exact Nat.le_trans ih (Nat.mul_le_mul_right _ h2)
      · cases hd
    · cases h
theorem numO_in {s : ByteArray} (h : s.size ≤ 4) : in64 (numO s) := by
  have hl : s.data.toList.length ≤ 4 := h
  have pw : ∀ k, k ≤ 4 → (10 : Nat) ^ k ≤ 10000 := fun k hk => by
    match k, hk with
    | 0, _ | 1, _ | 2, _ | 3, _ | 4, _ => decide
  have nat : ∀ (l : List UInt8), l.length ≤ 4 → ∀ n, Lib.decNat l = some n → n ≤ 10000 := fun l hl n h => by
    unfold Lib.decNat at h
    split at h
    · cases h
    · have := decFrom_lt l 0 n h
      have := pw _ hl
      omega
  have key : ∀ (l : List UInt8), l.length ≤ 4 → ∀ n, Lib.atoi l = some n → -10000 ≤ n ∧ n ≤ 10000 := fun l hl n h => by
    match l, hl, h with
    | [], _, h => cases h
    | c :: r, hl, h =>
      have hr : r.length ≤ 4 := by simp at hl; omega
      change (if (c == 45) = true then (Lib.decNat r).map fun (m : Nat) => -(m : Int) else if (c == 43) = true then (Lib.decNat r).map fun (m : Nat) => (m : Int) else (Lib.decNat (c :: r)).map fun (m : Nat) => (m : Int)) = some n at h
      split at h
      · obtain ⟨k, hk, rfl⟩ := Option.map_eq_some_iff.1 h
        have := nat r hr k hk
        omega
      · split at h
        · obtain ⟨k, hk, rfl⟩ := Option.map_eq_some_iff.1 h
          have := nat r hr k hk
          omega
        · obtain ⟨k, hk, rfl⟩ := Option.map_eq_some_iff.1 h
          have := nat _ hl k hk
          omega
  unfold numO in64
  cases h : Lib.atoi s.data.toList with
  | none => decide
  | some n => have := key _ hl n h; simp only [Option.getD_some]; omega
def yO (s : ByteArray) : Int := numO (s.extract 0 4)
def mO (s : ByteArray) : Int := numO (s.extract 5 7)
def dO (s : ByteArray) : Int := numO (s.extract 8 10)
open Classical in
noncomputable def readC (s : ByteArray) : Int × Int := if s.size = 10 ∧ validD (yO s) (mO s) (dO s) ∧ textR (dayV (yO s) (mO s) (dO s)) = s then (dayV (yO s) (mO s) (dO s), 0) else (0, 11)
theorem dayV_in {y m d : Int} : in64 (dayV y m d) := by
  unfold dayV
  split
  · rename_i h
    have hc : Civ (dayN y m.toNat d) y m.toNat d := ⟨h.1, by have := h.2.2.1; omega, by have := h.2.2.2.1; omega, h.2.2.2.2.1, by rw [Int.toNat_of_nonneg (by have := h.2.2.1; omega)]; exact h.2.2.2.2.2, rfl⟩
    have ho : okDay (dayN y m.toNat d) := hc.range.2 h.2.1
    unfold okDay at ho
    unfold in64; omega
  · unfold in64; decide
set_option maxRecDepth 100000 in
theorem c19 (n : Int) (w : World) (hn : in64 n) (hL : LD w) :
    Calls Tryd.prog 19 #[.int .i64 n] w fun e w' => e = .returned (.string (textR n)) ∧ Later w w' := by
  refine enter (vs := [.int .i64 n]) Tryd.func19 rfl Tryd.ntmps19 rfl ?_
  refine w_seq ?_
  refine rg_text ?_
  refine x_val rfl rfl rfl (v_assign rfl) ?_
  refine x_end ?_
  refine t_norm ?_
  refine w_seq ?_
  refine w_seq ?_
  refine rg_text ?_
  refine x_val rfl rfl rfl (v_move rfl) ?_
  refine x_callb rfl rfl rfl Tryd.func37 (by kernel_rfl) rfl (fun w1 hw1 => c37 _ w1) ?_
  intro b7 hb7
  refine x_bool rfl rfl rfl (v_not rfl) ?_
  intro b8 hb8
  refine x_end ?_
  refine t_norm ?_
  refine w_cond rfl (fun hc8 => ?_) (fun hc8 => ?_)
  · simp only [hb8, hb7, decide_eq_true_eq, decide_eq_false_iff_not, Bool.and_eq_true, Bool.or_eq_true, Bool.and_eq_false_iff, Bool.or_eq_false_iff, Bool.not_eq_true', Bool.not_eq_false', ne_eq, Decidable.not_not] at hc8
    have ho : ¬okDay n := by simpa using hc8
    refine w_seq ?_
    refine rg_text ?_
    refine x_val rfl rfl rfl (v_assign rfl) ?_
    refine x_end ?_
    refine t_norm ?_
    refine w_ret ?_
    refine t_ret ?_
    refine ret1 rfl rfl (fun w' hm => ⟨?_, hm.base (by simp)⟩)
    unfold textR; rw [if_neg ho]
  · simp only [hb8, hb7, decide_eq_true_eq, decide_eq_false_iff_not, Bool.and_eq_true, Bool.or_eq_true, Bool.and_eq_false_iff, Bool.or_eq_false_iff, Bool.not_eq_true', Bool.not_eq_false', ne_eq, Decidable.not_not] at hc8
    have ho : okDay n := by simpa using hc8
    obtain ⟨y1, y2, m1, m2, d1, d2⟩ := civ_rng ho
    refine w_skip ?_
    refine t_norm ?_
    refine w_seq ?_
    refine rg_text ?_
    refine x_val rfl rfl rfl (v_move rfl) ?_
    refine x_callv rfl rfl rfl Tryd.func15 (by kernel_rfl) rfl (fun w1 hw1 => c15 _ w1) ?_
    refine x_val rfl rfl rfl (v_move rfl) ?_
    refine x_val rfl rfl rfl (v_extract rfl rfl) ?_
    refine x_val rfl rfl rfl (v_extract rfl rfl) ?_
    refine x_val rfl rfl rfl (v_extract rfl rfl) ?_
    refine x_val rfl rfl rfl (v_assign rfl) ?_
    refine x_val rfl rfl rfl (v_assign rfl) ?_
    refine x_val rfl rfl rfl (v_assign rfl) ?_
    refine x_end ?_
    refine t_norm ?_
    refine w_seq ?_
    refine rg_text ?_
    refine x_val rfl rfl rfl (v_move rfl) ?_
    refine x_callv rfl rfl rfl Tryd.func38 (by kernel_rfl) rfl (fun w1 hw1 => c38 _ 4 w1 (by omega) (by have := pow10_le (k := 4) (by decide); show _ < (10 : Int) ^ 4; simp only [show (10 : Int) ^ 4 = 10000 by decide, show (10 : Int) ^ 2 = 100 by decide]; omega) (by decide) (hL.later (hw1.base (by simp)))) ?_
    refine x_val rfl rfl rfl (v_sadd rfl rfl (by simp only [ByteArray.size_append, lowD_size]; decide)) ?_
    refine x_val rfl rfl rfl (v_move rfl) ?_
    refine x_callv rfl rfl rfl Tryd.func38 (by kernel_rfl) rfl (fun w1 hw1 => c38 _ 2 w1 (by omega) (by have := pow10_le (k := 4) (by decide); show _ < (10 : Int) ^ 2; simp only [show (10 : Int) ^ 4 = 10000 by decide, show (10 : Int) ^ 2 = 100 by decide]; omega) (by decide) (hL.later (hw1.base (by simp)))) ?_
    refine x_val rfl rfl rfl (v_sadd rfl rfl (by simp only [ByteArray.size_append, lowD_size]; decide)) ?_
    refine x_val rfl rfl rfl (v_sadd rfl rfl (by simp only [ByteArray.size_append, lowD_size]; decide)) ?_
    refine x_val rfl rfl rfl (v_move rfl) ?_
    refine x_callv rfl rfl rfl Tryd.func38 (by kernel_rfl) rfl (fun w1 hw1 => c38 _ 2 w1 (by omega) (by have := pow10_le (k := 4) (by decide); show _ < (10 : Int) ^ 2; simp only [show (10 : Int) ^ 4 = 10000 by decide, show (10 : Int) ^ 2 = 100 by decide]; omega) (by decide) (hL.later (hw1.base (by simp)))) ?_
    refine x_val rfl rfl rfl (v_sadd rfl rfl (by simp only [ByteArray.size_append, lowD_size]; decide)) ?_
    refine x_val rfl rfl rfl (v_assign rfl) ?_
    refine x_end ?_
    refine t_norm ?_
    refine w_ret ?_
    refine ret1 rfl rfl (fun w' hm => ⟨?_, hm.base (by simp)⟩)
    unfold textR; rw [if_pos ho]
set_option maxRecDepth 100000 in
theorem c41 (s : ByteArray) (p a b : Nat) (w : World) (hp : w.cell? ⟨p, 0, none⟩ = some (.string s)) (hab : a ≤ b) (hbs : b ≤ s.size) (h4 : b - a ≤ 4) (hL : LD w) :
    Calls Tryd.prog 41 #[.int .i64 (a : Nat), .int .i64 (b : Nat), .pointer (some ⟨p, 0, none⟩)] w fun e w' => e = .returned (.int .i64 (numO (s.extract a b))) ∧ Later w w' := by
  refine enter (vs := [.int .i64 (a : Nat), .int .i64 (b : Nat), .pointer (some ⟨p, 0, none⟩)]) Tryd.func41 rfl Tryd.ntmps41 rfl ?_
  refine w_seq ?_
  refine rg_text ?_
  refine x_val rfl rfl rfl (v_assign rfl) ?_
  refine x_end ?_
  refine t_norm ?_
  refine w_seq ?_
  refine rg_text ?_
  refine x_val rfl rfl rfl (v_load Tryd.underlying9 rfl rfl (by first | exact at_ownL (.head _) rfl | exact at_ownL (.tail _ (.head _)) rfl | exact at_ownL (.tail _ (.tail _ (.head _))) rfl | (apply at_ownL; ((repeat (first | exact List.Mem.head _ | apply List.Mem.tail | apply List.mem_append_right))); rfl) | (refine at_ro (by first | exact .head _ | exact .tail _ (.head _) | exact .tail _ (.tail _ (.head _)) | simp) ?_ (by assumption); trivial))) ?_
  refine x_val rfl rfl rfl (v_move rfl) ?_
  refine x_val rfl rfl rfl (v_move rfl) ?_
  refine x_val rfl rfl rfl (v_cut Tryd.underlying9 rfl rfl rfl (by first | omega | (dsimp only; omega)) (by first | omega | (dsimp only; omega))) ?_
  refine x_call rfl rfl rfl Tryd.func42 (by kernel_rfl) rfl (fun w1 hw1 => c42 _ w1 (by rw [ByteArray.size_extract]; omega) (hL.later (hw1.base (by simp)))) ?_
  intro v13 wa13 wb13 hm13 hl13 hr13
  obtain ⟨ev13, rfl⟩ := hr13
  refine x_val rfl rfl rfl (v_move rfl) ?_
  refine x_val rfl rfl rfl (v_extract rfl rfl) ?_
  refine x_val rfl rfl rfl (v_extract rfl rfl) ?_
  refine x_val rfl rfl rfl (v_assign rfl) ?_
  refine x_val rfl rfl rfl (v_assign rfl) ?_
  refine x_end ?_
  refine t_norm ?_
  refine w_seq ?_
  refine rg_text ?_
  refine x_val rfl rfl rfl (v_move rfl) ?_
  refine x_val rfl rfl rfl (v_assign rfl) ?_
  refine x_end ?_
  refine t_norm ?_
  refine w_ret ?_
  refine ret1 rfl rfl (fun w' hm => ⟨?_, hm.base (by simp)⟩)
  rfl
set_option maxRecDepth 100000 in
theorem c21 (s : ByteArray) (w : World) (hs : okS s) (hL : LD w) :
    Calls Tryd.prog 21 #[.string s] w fun e w' => e = .returned (.tuple #[.int .i64 (readC s).1, .int .i64 (readC s).2]) ∧ Later w w' := by
  refine enter (vs := [.string s]) Tryd.func21 rfl Tryd.ntmps21 rfl ?_
  refine w_seq ?_
  refine rg_text ?_
  refine x_box rfl rfl rfl rfl ?_
  intro p1
  refine x_val rfl rfl rfl (v_assign rfl) ?_
  refine x_val rfl rfl rfl (v_assign rfl) ?_
  refine x_end ?_
  refine t_norm ?_
  refine w_seq ?_
  refine w_seq ?_
  refine rg_text ?_
  refine x_val rfl rfl rfl (v_load Tryd.underlying9 rfl rfl (by first | exact at_ownL (.head _) rfl | exact at_ownL (.tail _ (.head _)) rfl | exact at_ownL (.tail _ (.tail _ (.head _))) rfl | (apply at_ownL; ((repeat (first | exact List.Mem.head _ | apply List.Mem.tail | apply List.mem_append_right))); rfl) | (refine at_ro (by first | exact .head _ | exact .tail _ (.head _) | exact .tail _ (.tail _ (.head _)) | simp) ?_ (by assumption); trivial))) ?_
  refine x_val rfl rfl rfl (v_len_str Tryd.underlying9 rfl) ?_
  refine x_bool rfl rfl rfl (v_neq rfl rfl) ?_
  intro b9 hb9
  refine x_end ?_
  refine t_norm ?_
  refine w_cond rfl (fun hc9 => ?_) (fun hc9 => ?_)
  · simp only [hb9, decide_eq_true_eq, decide_eq_false_iff_not, Bool.and_eq_true, Bool.or_eq_true, Bool.and_eq_false_iff, Bool.or_eq_false_iff, Bool.not_eq_true', Bool.not_eq_false', ne_eq, Decidable.not_not] at hc9
    have hf : ¬s.size = 10 := by omega
    refine w_seq ?_
    refine rg_text ?_
    refine x_val rfl rfl rfl (v_assign rfl) ?_
    refine x_val rfl rfl rfl (v_assign rfl) ?_
    refine x_end ?_
    refine t_norm ?_
    refine w_ret ?_
    refine t_ret ?_
    refine ret2 rfl rfl rfl (fun w' hm => ⟨?_, hm.base (by simp)⟩)
    rw [show readC s = (0, 11) from by unfold readC; rw [if_neg (fun h => hf h.1)]]
  · simp only [hb9, decide_eq_true_eq, decide_eq_false_iff_not, Bool.and_eq_true, Bool.or_eq_true, Bool.and_eq_false_iff, Bool.or_eq_false_iff, Bool.not_eq_true', Bool.not_eq_false', ne_eq, Decidable.not_not] at hc9
    have h10 : s.size = 10 := by omega
    refine w_skip ?_
    refine t_norm ?_
    refine w_seq ?_
    refine rg_text ?_
    refine x_val rfl rfl rfl (v_func rfl) ?_
    refine x_val rfl rfl rfl (v_assign rfl) ?_
    refine x_end ?_
    refine t_norm ?_
    refine w_seq ?_
    refine rg_text ?_
    refine x_val rfl rfl rfl (v_move rfl) ?_
    refine x_clv rfl rfl rfl rfl Tryd.func41 (by kernel_rfl) rfl (fun w1 hw1 => c41 s p1 0 4 w1 (hw1.cell_own (cs := #[Value.string s]) (.head _) 0) (by decide) (by omega) (by decide) (hL.later (hw1.base (by simp)))) ?_
    refine x_val rfl rfl rfl (v_move rfl) ?_
    refine x_clv rfl rfl rfl rfl Tryd.func41 (by kernel_rfl) rfl (fun w1 hw1 => c41 s p1 5 7 w1 (hw1.cell_own (cs := #[Value.string s]) (.head _) 0) (by decide) (by omega) (by decide) (hL.later (hw1.base (by simp)))) ?_
    refine x_val rfl rfl rfl (v_move rfl) ?_
    refine x_clv rfl rfl rfl rfl Tryd.func41 (by kernel_rfl) rfl (fun w1 hw1 => c41 s p1 8 10 w1 (hw1.cell_own (cs := #[Value.string s]) (.head _) 0) (by decide) (by omega) (by decide) (hL.later (hw1.base (by simp)))) ?_
    refine x_callv rfl rfl rfl Tryd.func13 (by kernel_rfl) rfl (fun w1 hw1 => c13 _ _ _ w1 (numO_in (ext_le s (by omega)))) ?_
    refine x_val rfl rfl rfl (v_move rfl) ?_
    refine x_val rfl rfl rfl (v_extract rfl rfl) ?_
    refine x_bool rfl rfl rfl (v_extract rfl rfl) ?_
    intro b20 hb20
    refine x_val rfl rfl rfl (v_assign rfl) ?_
    refine x_val rfl rfl rfl (v_assign rfl) ?_
    refine x_end ?_
    refine t_norm ?_
    refine w_seq ?_
    refine w_seq ?_
    refine rg_draw 8 [(true, 0), (true, 1), (true, 2), (true, 3), (true, 4), (true, 5), (true, 6), (true, 7)] (by kernel_rfl) (by kernel_rfl) ?_
    refine x_val rfl rfl rfl (v_move rfl) ?_
    refine x_bool rfl rfl rfl (v_not rfl) ?_
    intro b22 hb22
    refine x_val rfl rfl rfl (v_move rfl) ?_
    refine x_if [] rfl rfl rfl rfl rfl (fun hg => by obtain ⟨hg0, _⟩ := hg; subst hg0; (try simp only [List.cons_append, List.nil_append, gvl_nil, gvl_t, gvl_f]); exact v_move rfl) ?_
    refine x_call_if [] rfl rfl rfl rfl rfl Tryd.func19 (by kernel_rfl) (fun hg => by obtain ⟨hg0, _⟩ := hg; subst hg0; (try simp only [List.cons_append, List.nil_append, gvl_nil, gvl_t, gvl_f]); refine ⟨_, rfl, ?_⟩; exact fun w1 hw1 => c19 _ w1 dayV_in (hL.later (hw1.base (by simp)))) ?_
    refine x_if [] rfl rfl rfl rfl rfl (fun hg => by obtain ⟨hg0, _⟩ := hg; subst hg0; (try simp only [List.cons_append, List.nil_append, gvl_nil, gvl_t, gvl_f]); exact v_load Tryd.underlying9 rfl rfl (by first | exact at_ownL (.head _) rfl | exact at_ownL (.tail _ (.head _)) rfl | exact at_ownL (.tail _ (.tail _ (.head _))) rfl | (apply at_ownL; ((repeat (first | exact List.Mem.head _ | apply List.Mem.tail | apply List.mem_append_right))); rfl) | (refine at_ro (by first | exact .head _ | exact .tail _ (.head _) | exact .tail _ (.tail _ (.head _)) | simp) ?_ (by assumption); trivial))) ?_
    refine x_ifb [] rfl rfl rfl rfl rfl (fun hg => by obtain ⟨hg0, _⟩ := hg; subst hg0; (try simp only [List.cons_append, List.nil_append, gvl_nil, gvl_t, gvl_f]); exact v_sneq rfl rfl) ?_
    intro b27 hb27
    refine x_bool rfl rfl rfl (v_or rfl rfl) ?_
    intro b28 hb28
    refine x_end ?_
    refine t_norm ?_
    refine w_cond rfl (fun hc28 => ?_) (fun hc28 => ?_)
    · simp only [hb28, hb27, hb22, hb20, decide_eq_true_eq, decide_eq_false_iff_not, Bool.and_eq_true, Bool.or_eq_true, Bool.and_eq_false_iff, Bool.or_eq_false_iff, Bool.not_eq_true', Bool.not_eq_false', ne_eq, Decidable.not_not] at hc28
      refine w_seq ?_
      refine rg_text ?_
      refine x_val rfl rfl rfl (v_assign rfl) ?_
      refine x_val rfl rfl rfl (v_assign rfl) ?_
      refine x_end ?_
      refine t_norm ?_
      refine w_ret ?_
      refine t_ret ?_
      refine ret2 rfl rfl rfl (fun w' hm => ⟨?_, hm.base (by simp)⟩)
      rw [show readC s = (0, 11) from by unfold readC yO mO dO; rw [if_neg (fun h => hc28.elim (fun hc => hc h.2.1) (fun hc => hc h.2.2))]]
    · simp only [hb28, hb27, hb22, hb20, decide_eq_true_eq, decide_eq_false_iff_not, Bool.and_eq_true, Bool.or_eq_true, Bool.and_eq_false_iff, Bool.or_eq_false_iff, Bool.not_eq_true', Bool.not_eq_false', ne_eq, Decidable.not_not] at hc28
      refine w_skip ?_
      refine t_norm ?_
      refine w_seq ?_
      refine rg_text ?_
      refine x_val rfl rfl rfl (v_move rfl) ?_
      refine x_val rfl rfl rfl (v_assign rfl) ?_
      refine x_val rfl rfl rfl (v_assign rfl) ?_
      refine x_end ?_
      refine t_norm ?_
      refine w_ret ?_
      refine ret2 rfl rfl rfl (fun w' hm => ⟨?_, hm.base (by simp)⟩)
      rw [show readC s = (dayV (yO s) (mO s) (dO s), 0) from by unfold readC; rw [if_pos ⟨h10, hc28.1, hc28.2⟩]]; rfl

end Go.Proofs.YtffdbbcmibamjaaDoor

namespace Go.Proofs.YtffdbbcmibamjaaDoor
open Go.RowKit Go.PK
set_option linter.unusedVariables false
set_option linter.unusedSimpArgs false

theorem ten {s : ByteArray} (h : s.size = 10) : ∃ c0 c1 c2 c3 c4 c5 c6 c7 c8 c9, s = ⟨#[c0, c1, c2, c3, c4, c5, c6, c7, c8, c9]⟩ := by
  obtain ⟨⟨l⟩⟩ := s
  have h : l.length = 10 := h
  match l, h with
  | [c0, c1, c2, c3, c4, c5, c6, c7, c8, c9], _ => exact ⟨c0, c1, c2, c3, c4, c5, c6, c7, c8, c9, rfl⟩
theorem low4 (n : Int) : lowD n 4 = ⟨#[digB (n / 1000), digB (n / 100), digB (n / 10), digB n]⟩ := by
  rw [lowD_succ, lowD_succ, lowD_succ, lowD_succ, lowD_zero]
  simp only [Int.pow_zero, Int.ediv_one, show (10 : Int) ^ 3 = 1000 by decide, show (10 : Int) ^ 2 = 100 by decide, show (10 : Int) ^ 1 = 10 by decide]
  rfl
theorem low2 (n : Int) : lowD n 2 = ⟨#[digB (n / 10), digB n]⟩ := by
  rw [lowD_succ, lowD_succ, lowD_zero]
  simp only [Int.pow_zero, Int.ediv_one, show (10 : Int) ^ 1 = 10 by decide]
  rfl
theorem isDig_digB (n : Int) : isDig (digB n) := by
  unfold isDig digB
  rw [UInt8.toNat_ofNat_of_lt' (by show _ < 256; omega)]
  omega
theorem digB_eq {n : Int} {c : UInt8} (hc : isDig c) (h : n % 10 = c.toNat - 48) : digB n = c := by
  apply UInt8.toNat_inj.1
  unfold isDig at hc
  unfold digB
  rw [UInt8.toNat_ofNat_of_lt' (by show _ < 256; omega)]
  omega
theorem digVal {c : UInt8} (h : isDig c) : Lib.digitVal c = some (c.toNat - 48) := by unfold Lib.digitVal; exact if_pos (by unfold isDig at h; exact h)
theorem dig_sign {c : UInt8} (h : isDig c) : (c == 45) = false ∧ (c == 43) = false := by
  refine ⟨beq_eq_false_iff_ne.2 fun e => ?_, beq_eq_false_iff_ne.2 fun e => ?_⟩ <;> subst e <;> revert h <;> unfold isDig <;> decide
theorem numO4 {a b c d : UInt8} (ha : isDig a) (hb : isDig b) (hc : isDig c) (hd : isDig d) : numO ⟨#[a, b, c, d]⟩ = 1000 * (a.toNat - 48 : Int) + 100 * (b.toNat - 48) + 10 * (c.toNat - 48) + (d.toNat - 48) := by
  unfold numO
  show ((Lib.atoi [a, b, c, d]).getD 0) = _
  obtain ⟨h1, h2⟩ := dig_sign ha
  simp only [Lib.atoi, h1, h2, Lib.decNat, Lib.decFrom, digVal ha, digVal hb, digVal hc, digVal hd, List.isEmpty_cons]
  simp only [Bool.false_eq_true, if_false, Option.map_some, Option.getD_some]
  unfold isDig at ha hb hc hd
  omega
theorem numO2 {a b : UInt8} (ha : isDig a) (hb : isDig b) : numO ⟨#[a, b]⟩ = 10 * (a.toNat - 48 : Int) + (b.toNat - 48) := by
  unfold numO
  show ((Lib.atoi [a, b]).getD 0) = _
  obtain ⟨h1, h2⟩ := dig_sign ha
  simp only [Lib.atoi, h1, h2, Lib.decNat, Lib.decFrom, digVal ha, digVal hb, List.isEmpty_cons]
  simp only [Bool.false_eq_true, if_false, Option.map_some, Option.getD_some]
  unfold isDig at ha hb
  omega
theorem all4 {a b c d : UInt8} : allDig ⟨#[a, b, c, d]⟩ ↔ isDig a ∧ isDig b ∧ isDig c ∧ isDig d := by
  constructor
  · intro h
    exact ⟨h 0 (by show 0 < 4; decide), h 1 (by show 1 < 4; decide), h 2 (by show 2 < 4; decide), h 3 (by show 3 < 4; decide)⟩
  · rintro ⟨h0, h1, h2, h3⟩ j hj
    have hj : j < 4 := hj
    match j, hj with
    | 0, _ => exact h0
    | 1, _ => exact h1
    | 2, _ => exact h2
    | 3, _ => exact h3
theorem all2 {a b : UInt8} : allDig ⟨#[a, b]⟩ ↔ isDig a ∧ isDig b := by
  constructor
  · intro h
    exact ⟨h 0 (by show 0 < 2; decide), h 1 (by show 1 < 2; decide)⟩
  · rintro ⟨h0, h1⟩ j hj
    have hj : j < 2 := hj
    match j, hj with
    | 0, _ => exact h0
    | 1, _ => exact h1
theorem numR4 {a b c d : UInt8} (h : isDig a ∧ isDig b ∧ isDig c ∧ isDig d) : numR ⟨#[a, b, c, d]⟩ = (1000 * (a.toNat - 48 : Int) + 100 * (b.toNat - 48) + 10 * (c.toNat - 48) + (d.toNat - 48), true) := by
  unfold numR
  rw [if_pos (all4.2 h)]
  show (valTo _ 4, true) = _
  simp only [valTo]
  refine Prod.ext ?_ rfl
  show 10 * (10 * (10 * (10 * (0 : Int) + (a.toNat - 48)) + (b.toNat - 48)) + (c.toNat - 48)) + (d.toNat - 48) = _
  dsimp only
  omega
theorem numR2 {a b : UInt8} (h : isDig a ∧ isDig b) : numR ⟨#[a, b]⟩ = (10 * (a.toNat - 48 : Int) + (b.toNat - 48), true) := by
  unfold numR
  rw [if_pos (all2.2 h)]
  show (valTo _ 2, true) = _
  simp only [valTo]
  refine Prod.ext ?_ rfl
  show 10 * (10 * (0 : Int) + (a.toNat - 48)) + (b.toNat - 48) = _
  dsimp only
  omega
theorem validD_civ {y m d : Int} (h : validD y m d) : okDay (dayV y m d) ∧ civ (dayV y m d) = (y, m.toNat, d) := by
  have hc : Civ (dayN y m.toNat d) y m.toNat d := ⟨h.1, by have := h.2.2.1; omega, by have := h.2.2.2.1; omega, h.2.2.2.2.1, by rw [Int.toNat_of_nonneg (by have := h.2.2.1; omega)]; exact h.2.2.2.2.2, rfl⟩
  have ho : okDay (dayN y m.toNat d) := hc.range.2 h.2.1
  have e : dayV y m d = dayN y m.toNat d := by unfold dayV; rw [if_pos h]
  rw [e]
  exact ⟨ho, civ_eq ho hc⟩
theorem textR_dig {n : Int} (h : okDay n) : ∃ y m d : Int, textR n = ⟨#[digB (y / 1000), digB (y / 100), digB (y / 10), digB y, 45, digB (m / 10), digB m, 45, digB (d / 10), digB d]⟩ ∧ y = (civ n).1 ∧ m = (civ n).2.1 ∧ d = (civ n).2.2 := by
  refine ⟨_, _, _, ?_, rfl, rfl, rfl⟩
  unfold textR
  rw [if_pos h, low4, low2, low2]
  rfl
theorem readC_eq (s : ByteArray) : readC s = readR s := by
  by_cases h10 : s.size = 10
  · obtain ⟨c0, c1, c2, c3, c4, c5, c6, c7, c8, c9, rfl⟩ := ten h10
    have eA : (⟨#[c0, c1, c2, c3, c4, c5, c6, c7, c8, c9]⟩ : ByteArray).extract 0 4 = ⟨#[c0, c1, c2, c3]⟩ := rfl
    have eB : (⟨#[c0, c1, c2, c3, c4, c5, c6, c7, c8, c9]⟩ : ByteArray).extract 5 7 = ⟨#[c5, c6]⟩ := rfl
    have eC : (⟨#[c0, c1, c2, c3, c4, c5, c6, c7, c8, c9]⟩ : ByteArray).extract 8 10 = ⟨#[c8, c9]⟩ := rfl
    by_cases hf : c4 = 45 ∧ c7 = 45 ∧ (isDig c0 ∧ isDig c1 ∧ isDig c2 ∧ isDig c3) ∧ (isDig c5 ∧ isDig c6) ∧ isDig c8 ∧ isDig c9
    · obtain ⟨rfl, rfl, ha, hb, hc⟩ := hf
      have hfm : formD ⟨#[c0, c1, c2, c3, 45, c5, c6, 45, c8, c9]⟩ := ⟨rfl, rfl, rfl⟩
      unfold readC readR yO mO dO part
      rw [eA, eB, eC, numR4 ha, numR2 hb, numR2 hc, numO4 ha.1 ha.2.1 ha.2.2.1 ha.2.2.2, numO2 hb.1 hb.2, numO2 hc.1 hc.2]
      dsimp only
      generalize hy : 1000 * (c0.toNat - 48 : Int) + 100 * (c1.toNat - 48) + 10 * (c2.toNat - 48) + (c3.toNat - 48) = y
      generalize hm : 10 * (c5.toNat - 48 : Int) + (c6.toNat - 48) = m
      generalize hd : 10 * (c8.toNat - 48 : Int) + (c9.toNat - 48) = d
      by_cases hv : validD y m d
      · have ht : textR (dayV y m d) = ⟨#[c0, c1, c2, c3, 45, c5, c6, 45, c8, c9]⟩ := by
          obtain ⟨ho, hcv⟩ := validD_civ hv
          obtain ⟨y', m', d', h1, h2, h3, h4⟩ := textR_dig ho
          rw [hcv] at h2 h3 h4
          dsimp only at h2 h3 h4
          rw [Int.toNat_of_nonneg (by have := hv.2.2.1; omega)] at h3
          rw [h1, h2, h3, h4]
          have ha' := ha; have hb' := hb; have hc' := hc
          unfold isDig at ha' hb' hc'
          rw [digB_eq (c := c0) ha.1 (by omega), digB_eq (c := c1) ha.2.1 (by omega), digB_eq (c := c2) ha.2.2.1 (by omega), digB_eq (c := c3) ha.2.2.2 (by omega),
            digB_eq (c := c5) hb.1 (by omega), digB_eq (c := c6) hb.2 (by omega), digB_eq (c := c8) hc.1 (by omega), digB_eq (c := c9) hc.2 (by omega)]
        rw [if_pos ⟨rfl, hv, ht⟩, if_pos ⟨hfm, rfl, rfl, rfl, hv⟩]
      · rw [if_neg (fun h => hv h.2.1), if_neg (fun h => hv h.2.2.2.2)]
    · have hR : readR ⟨#[c0, c1, c2, c3, c4, c5, c6, c7, c8, c9]⟩ = (0, 11) := by
        unfold readR part
        rw [eA, eB, eC, if_neg]
        rintro ⟨⟨_, h1, h2⟩, h3, h4, h5, _⟩
        refine hf ⟨h1, h2, ?_, ?_, ?_⟩
        · unfold numR at h3; split at h3
          · exact all4.1 (by assumption)
          · cases h3
        · unfold numR at h4; split at h4
          · exact all2.1 (by assumption)
          · cases h4
        · unfold numR at h5; split at h5
          · exact all2.1 (by assumption)
          · cases h5
      rw [hR]
      unfold readC
      rw [if_neg]
      rintro ⟨_, hv, ht⟩
      obtain ⟨ho, _⟩ := validD_civ hv
      obtain ⟨y', m', d', h1, _⟩ := textR_dig ho
      rw [h1] at ht
      injection ht with ht
      injection ht with ht
      simp only [List.cons.injEq, and_true] at ht
      obtain ⟨k0, k1, k2, k3, k4, k5, k6, k7, k8, k9⟩ := ht
      have g := isDig_digB
      exact hf ⟨k4.symm, k7.symm, ⟨k0 ▸ g _, k1 ▸ g _, k2 ▸ g _, k3 ▸ g _⟩, ⟨k5 ▸ g _, k6 ▸ g _⟩, k8 ▸ g _, k9 ▸ g _⟩
  · unfold readC readR
    rw [if_neg (fun h => h10 h.1), if_neg (fun h => h10 h.1.1)]

end Go.Proofs.YtffdbbcmibamjaaDoor

namespace Go.Proofs.YtffdbbcmibamjaaDoor
open Go.RowKit Go.PK
set_option linter.unusedVariables false
set_option linter.unusedSimpArgs false

theorem cnt_zero {p : Int → Bool} {f : Int} {k : Nat} (h : k = 0) : cnt p f k = 0 := by subst h; rfl
theorem cnt_take {q : Int → Bool} {l : List Int} {f : Int} {L k : Nat} (hk : k < l.length) : cnt (fun n => q n && hasI (l.take (k + 1)) n) f L = cnt (fun n => q n && hasI (l.take k) n) f L + bi (decide (f ≤ l[k] ∧ l[k] < f + L) && (q l[k] && !hasI (l.take k) l[k])) := by
  rw [← List.take_append_getElem hk, cnt_snoc]
theorem hasI_take {l : List Int} {k : Nat} {n : Int} (hk : k < l.length) : hasI (l.take (k + 1)) n = (hasI (l.take k) n || decide (n = l[k])) := by
  rw [← List.take_append_getElem hk, hasI_snoc]
set_option maxRecDepth 100000 in
theorem c25 {v : Value} {ds : List Int} {D : Nat → Prop} {wk : List Bool} (a b : Int) (w : World) (hds : sliceRd tyI D w v ds) (hwk : wk.length = 7) (hl : ds.length ≤ 20) :
    Calls Tryd.prog 25 #[.agg (calC wk v).toArray, .int .i64 a, .int .i64 b] w fun e w' => e = .returned (.int .i64 (cntP wk ds a b)) ∧ Later w w' := by
  have hds0 := hds
  obtain ⟨A, c, rfl, hlc, hmx, hA⟩ := id hds
  refine enter (vs := [.agg (calC wk (.slice A ds.length c)).toArray, .int .i64 a, .int .i64 b]) Tryd.func25 rfl Tryd.ntmps25 rfl ?_
  refine w_seq ?_
  refine rg_text ?_
  refine x_box rfl rfl rfl rfl ?_
  intro p3
  refine x_val rfl rfl rfl (v_assign rfl) ?_
  refine x_end ?_
  refine t_norm ?_
  refine w_seq ?_
  refine rg_text ?_
  refine x_val rfl rfl rfl (v_move rfl) ?_
  refine x_val rfl rfl rfl (v_max rfl rfl) ?_
  refine x_val rfl rfl rfl (v_move rfl) ?_
  refine x_val rfl rfl rfl (v_min rfl rfl) ?_
  refine x_val rfl rfl rfl (v_assign rfl) ?_
  refine x_val rfl rfl rfl (v_assign rfl) ?_
  refine x_end ?_
  refine t_norm ?_
  refine w_seq ?_
  refine w_seq ?_
  refine rg_text ?_
  refine x_val rfl rfl rfl (v_move rfl) ?_
  refine x_val rfl rfl rfl (v_move rfl) ?_
  refine x_bool rfl rfl rfl (v_geq rfl rfl) ?_
  intro b18 hb18
  refine x_end ?_
  refine t_norm ?_
  refine w_cond rfl (fun hc18 => ?_) (fun hc18 => ?_)
  · simp only [hb18, decide_eq_true_eq, decide_eq_false_iff_not, Bool.and_eq_true, Bool.or_eq_true, Bool.and_eq_false_iff, Bool.or_eq_false_iff, Bool.not_eq_true', Bool.not_eq_false', ne_eq, Decidable.not_not] at hc18
    skip
    refine w_seq ?_
    refine rg_text ?_
    refine x_val rfl rfl rfl (v_assign rfl) ?_
    refine x_end ?_
    refine t_norm ?_
    refine w_ret ?_
    refine t_ret ?_
    refine ret1 rfl rfl (fun w' hm => ⟨?_, hm.base (by simp)⟩)
    unfold cntP; rw [cnt_zero (by omega)]
  · simp only [hb18, decide_eq_true_eq, decide_eq_false_iff_not, Bool.and_eq_true, Bool.or_eq_true, Bool.and_eq_false_iff, Bool.or_eq_false_iff, Bool.not_eq_true', Bool.not_eq_false', ne_eq, Decidable.not_not] at hc18
    refine w_skip ?_
    refine t_norm ?_
    refine w_seq ?_
    refine rg_text ?_
    refine x_val rfl rfl rfl (v_assign rfl) ?_
    refine x_end ?_
    refine t_norm ?_
    refine w_seq ?_
    refine w_seq ?_
    refine rg_text ?_
    refine x_val rfl rfl rfl (v_move rfl) ?_
    refine x_val rfl rfl rfl (v_move rfl) ?_
    refine x_val rfl rfl rfl (v_subi rfl rfl rfl (by first | omega | (dsimp only; omega))) ?_
    refine x_val rfl rfl rfl (v_min rfl rfl) ?_
    refine x_val rfl rfl rfl (v_move rfl) ?_
    refine x_end ?_
    refine t_norm ?_
    refine w_block ?_
    refine w_loop (σ := Nat) (fun k => (k : Int) ≤ min 7 ((min b 2932897) - (max a (-719162)))) (fun k => [(1, Value.int .i64 (max a (-719162))), (2, Value.int .i64 (min b 2932897)), (3, .pointer (some ⟨p3, 0, none⟩)), (7, Value.int .i64 (sW wk (max a (-719162)) ((min b 2932897) - (max a (-719162))) k)), (22, Value.int .i64 (min 7 ((min b 2932897) - (max a (-719162))))), (23, Value.int .i64 (k : Nat))]) (fun k => [(p3, Obj.cells (calC wk (.slice A ds.length c)).toArray 38)]) (fun k => [(w, fun _ => True)]) (fun k => 7 - k) (0) (by omega) (l_start (by repeat (first | exact Sub.nil | refine Sub.cons rfl ?_)) (fun _ h => h)) ?_
    rintro k hk
    refine w_state ([(1, Value.int .i64 (max a (-719162))), (2, Value.int .i64 (min b 2932897)), (3, .pointer (some ⟨p3, 0, none⟩)), (7, Value.int .i64 (sW wk (max a (-719162)) ((min b 2932897) - (max a (-719162))) k)), (22, Value.int .i64 (min 7 ((min b 2932897) - (max a (-719162))))), (23, Value.int .i64 (k : Nat))]) ([(p3, Obj.cells (calC wk (.slice A ds.length c)).toArray 38)]) ([(w, fun _ => True)]) ?_
    have hsw := sW_rng wk (f := (max a (-719162))) (L := ((min b 2932897) - (max a (-719162)))) (by omega) k (by omega)
    have hkl : (k : Int) * ((min b 2932897) - (max a (-719162))) ≤ 7 * ((min b 2932897) - (max a (-719162))) := Int.mul_le_mul_of_nonneg_right (by omega) (by omega)
    refine w_seq ?_
    refine rg_text ?_
    refine x_bool rfl rfl rfl (v_lss rfl rfl) ?_
    intro b24 hb24
    refine x_end ?_
    refine t_norm ?_
    refine w_seq ?_
    refine w_cond rfl (fun hc24 => ?_) (fun hc24 => ?_)
    · simp only [hb24, decide_eq_true_eq, decide_eq_false_iff_not, Bool.and_eq_true, Bool.or_eq_true, Bool.and_eq_false_iff, Bool.or_eq_false_iff, Bool.not_eq_true', Bool.not_eq_false', ne_eq, Decidable.not_not] at hc24
      obtain ⟨q, hq⟩ : ∃ q : Nat, (((max a (-719162)) + (k : Int)) + 3) % 7 = (q : Int) := ⟨((((max a (-719162)) + (k : Int)) + 3) % 7).toNat, by omega⟩
      have hql : q < 7 := by omega
      refine w_skip ?_
      refine t_norm ?_
      refine w_seq ?_
      refine w_block ?_
      refine w_seq ?_
      refine rg_text ?_
      refine x_val rfl rfl rfl (v_move rfl) ?_
      refine x_val rfl rfl rfl (v_assign rfl) ?_
      refine x_end ?_
      refine t_norm ?_
      refine w_seq ?_
      refine rg_text ?_
      refine x_val rfl rfl rfl (v_move rfl) ?_
      refine x_val rfl rfl rfl (v_move rfl) ?_
      refine x_val rfl rfl rfl (v_addi rfl rfl rfl (by first | omega | (dsimp only; omega))) ?_
      refine x_callv rfl rfl rfl Tryd.func17 (by kernel_rfl) rfl (fun w1 hw1 => c17 _ w1) ?_
      refine x_val rfl rfl rfl (v_fieldAddr (off' := 0) Tryd.underlying38 rfl sz36 (by decide) rfl rfl) ?_
      refine x_val rfl rfl rfl (v_indexArr (j := q) (off' := q) Tryd.underlying36 sz4 rfl (congrArg (fun z : Int => some (Value.int .i64 z)) hq) (by omega) (by omega)) ?_
      refine x_bool rfl rfl rfl (v_load Tryd.underlying4 rfl rfl (at_ownL (vs := calC wk (.slice A ds.length c)) (.head _) (calC_wk (by omega)))) ?_
      intro b32 hb32
      refine x_bool rfl rfl rfl (v_not rfl) ?_
      intro b33 hb33
      refine x_end ?_
      refine t_norm ?_
      refine w_cond rfl (fun hc33 => ?_) (fun hc33 => ?_)
      · have ho : wkOpen wk ((max a (-719162)) + (k : Int)) = true := by unfold wkOpen; rw [hq, Int.toNat_natCast, ← hb32]; rw [← hb33]; exact hc33
        refine rg_text ?_
        refine x_val rfl rfl rfl (v_move rfl) ?_
        refine x_val rfl rfl rfl (v_move rfl) ?_
        refine x_val rfl rfl rfl (v_move rfl) ?_
        refine x_val rfl rfl rfl (v_subi rfl rfl rfl (by first | omega | (dsimp only; omega))) ?_
        refine x_val rfl rfl rfl (v_move rfl) ?_
        refine x_val rfl rfl rfl (v_subi rfl rfl rfl (by first | omega | (dsimp only; omega))) ?_
        refine x_val rfl rfl rfl (v_addi rfl rfl rfl (by first | omega | (dsimp only; omega))) ?_
        refine x_val rfl rfl rfl (v_subi rfl rfl rfl (by first | omega | (dsimp only; omega))) ?_
        refine x_val rfl rfl rfl (v_quoi (c := (((min b 2932897) - (max a (-719162))) - k + 6) / 7) rfl rfl (by decide) (by rw [Int.tdiv_eq_ediv_of_nonneg (by omega)]; congr 1; omega) (by omega)) ?_
        have hst : sW wk (max a (-719162)) ((min b 2932897) - (max a (-719162))) (k + 1) = sW wk (max a (-719162)) ((min b 2932897) - (max a (-719162))) k + tW wk (max a (-719162)) ((min b 2932897) - (max a (-719162))) k := rfl
        have ht : tW wk (max a (-719162)) ((min b 2932897) - (max a (-719162))) k = (((min b 2932897) - (max a (-719162))) - k + 6) / 7 := by unfold tW; rw [if_pos ho]
        refine x_val rfl rfl rfl (v_addi (c := sW wk (max a (-719162)) ((min b 2932897) - (max a (-719162))) (k + 1)) rfl rfl (by omega) (by omega)) ?_
        refine x_val rfl rfl rfl (v_assign rfl) ?_
        refine x_end ?_
        refine b_norm ?_
        refine t_norm ?_
        refine rg_text ?_
        refine x_val rfl rfl rfl (v_addi rfl rfl rfl (by first | omega | (dsimp only; omega))) ?_
        refine x_val rfl rfl rfl (v_move rfl) ?_
        refine x_end ?_
        exact l_norm (k + 1) (by omega) (by omega) (by repeat (first | exact Sub.nil | refine Sub.cons rfl ?_)) (fun _ h => h)
      · have ho : wkOpen wk ((max a (-719162)) + (k : Int)) = false := by unfold wkOpen; rw [hq, Int.toNat_natCast, ← hb32]; rw [← hb33]; exact hc33
        refine w_skip ?_
        refine b_norm ?_
        refine t_norm ?_
        refine rg_text ?_
        refine x_val rfl rfl rfl (v_addi rfl rfl rfl (by first | omega | (dsimp only; omega))) ?_
        refine x_val rfl rfl rfl (v_move rfl) ?_
        refine x_end ?_
        have hst : sW wk (max a (-719162)) ((min b 2932897) - (max a (-719162))) (k + 1) = sW wk (max a (-719162)) ((min b 2932897) - (max a (-719162))) k + tW wk (max a (-719162)) ((min b 2932897) - (max a (-719162))) k := rfl
        have ht : tW wk (max a (-719162)) ((min b 2932897) - (max a (-719162))) k = 0 := by unfold tW; rw [if_neg (by rw [ho]; exact Bool.false_ne_true)]
        rw [show sW wk (max a (-719162)) ((min b 2932897) - (max a (-719162))) k = sW wk (max a (-719162)) ((min b 2932897) - (max a (-719162))) (k + 1) by omega]
        exact l_norm (k + 1) (by omega) (by omega) (by repeat (first | exact Sub.nil | refine Sub.cons rfl ?_)) (fun _ h => h)
    · simp only [hb24, decide_eq_true_eq, decide_eq_false_iff_not, Bool.and_eq_true, Bool.or_eq_true, Bool.and_eq_false_iff, Bool.or_eq_false_iff, Bool.not_eq_true', Bool.not_eq_false', ne_eq, Decidable.not_not] at hc24
      have hLn : ((((min b 2932897) - (max a (-719162))).toNat : Nat) : Int) = ((min b 2932897) - (max a (-719162))) := by omega
      have hk7 : k = min 7 ((min b 2932897) - (max a (-719162))).toNat := by omega
      have hs := sW_min wk (max a (-719162)) ((min b 2932897) - (max a (-719162))).toNat
      rw [hLn, ← hk7] at hs
      rw [hs]
      refine w_exit ?_
      refine t_exit ?_
      refine t_exit ?_
      refine b_hit ?_
      refine t_norm ?_
      refine w_seq ?_
      refine rg_text ?_
      refine x_val rfl rfl rfl (v_fieldAddr (off' := 7) Tryd.underlying38 rfl sz26 (by decide) rfl rfl) ?_
      refine x_val rfl rfl rfl (v_load Tryd.underlying26 rfl rfl (at_ownL (vs := calC wk (.slice A ds.length c)) (.head _) (calC_v hwk))) ?_
      refine x_own (τ := RowS) (fun r => rowV r ds.length) (fun r => rowOK 1 r ds.length (ds.map (Value.int .i64))) (fun r => rowO 3 r ++ [(p3, Obj.cells (calC wk (.slice A ds.length c)).toArray 38)]) rfl rfl rfl Tryd.func44 (by kernel_rfl) rfl (fun w1 hw1 => c44 hw1 (hds.keep (Kept.later (hw1.base (by simp)))) hl) ?_
      intro r47 hr47
      refine x_val rfl rfl rfl (v_assign rfl) ?_
      refine x_end ?_
      refine t_norm ?_
      refine w_seq ?_
      refine rg_text ?_
      refine x_val rfl rfl rfl (v_move rfl) ?_
      refine x_turn (τ := RowS) (v := .tuple #[]) (fun r' => rowA r' = rowA r47 ∧ rowC r' = rowC r47 ∧ rowOK 1 r' ds.length ((srt ds).map (Value.int .i64))) (fun r' => rowO 3 r' ++ [(p3, Obj.cells (calC wk (.slice A ds.length c)).toArray 38)]) rfl rfl rfl Tryd.func45 (by kernel_rfl) rfl (fun w1 hw1 => by simpa using c45 hl hw1 hr47) ?_
      intro r49 hr49
      refine x_end ?_
      refine t_norm ?_
      refine w_seq ?_
      refine w_seq ?_
      refine rg_text ?_
      have e50 : rowV r47 ds.length = rowV r49 ds.length := by unfold rowV; rw [hr49.1, hr49.2.1]
      rw [e50]
      refine x_val rfl rfl rfl (v_move rfl) ?_
      refine x_turn (τ := RowS) (v := .slice (rowA r49) (comp ds).length (rowC r49)) (fun r' => rowA r' = rowA r49 ∧ rowC r' = rowC r49 ∧ rowOK 1 r' (comp ds).length ((comp ds).map (Value.int .i64))) (fun r' => rowO 3 r' ++ [(p3, Obj.cells (calC wk (.slice A ds.length c)).toArray 38)]) rfl rfl rfl Tryd.func46 (by kernel_rfl) rfl (fun w1 hw1 => by
        have hc := c46 (zs := srt ds) (r := r49) (by rw [srt_len]; exact hl) hw1 (by rw [srt_len]; exact hr49.2.2)
        rw [srt_len] at hc
        simpa [comp] using hc) ?_
      intro r51 hr51
      have hcl : (comp ds).length ≤ 20 := by have := compact_le (srt ds); rw [srt_len] at this; unfold comp; omega
      rw [show sW wk (max a (-719162)) ((min b 2932897) - (max a (-719162))) 7 = sW wk (max a (-719162)) ((min b 2932897) - (max a (-719162))) 7 - cnt (fun n => wkOpen wk n && hasI ((comp ds).take 0) n) (max a (-719162)) ((min b 2932897) - (max a (-719162))).toNat from by rw [List.take_zero, cnt_nil]; omega]
      refine x_val rfl rfl rfl (v_len_slice Tryd.underlying26 rfl) ?_
      refine x_val rfl rfl rfl (v_move rfl) ?_
      refine x_end ?_
      refine t_norm ?_
      refine w_block ?_
      refine w_loop (σ := Nat) (fun k => k ≤ (comp ds).length) (fun k => [(1, Value.int .i64 (max a (-719162))), (2, Value.int .i64 (min b 2932897)), (3, .pointer (some ⟨p3, 0, none⟩)), (7, Value.int .i64 (sW wk (max a (-719162)) ((min b 2932897) - (max a (-719162))) 7 - cnt (fun n => wkOpen wk n && hasI ((comp ds).take k) n) (max a (-719162)) ((min b 2932897) - (max a (-719162))).toNat)), (51, .slice (rowA r49) (comp ds).length (rowC r49)), (52, Value.int .i64 ((comp ds).length : Nat)), (53, Value.int .i64 (k : Nat))]) (fun k => rowO 3 r51 ++ [(p3, Obj.cells (calC wk (.slice A ds.length c)).toArray 38)]) (fun k => [(w, fun _ => True)]) (fun k => (comp ds).length - k) (0) (Nat.zero_le _) (l_start (by repeat (first | exact Sub.nil | refine Sub.cons rfl ?_)) (fun _ h => h)) ?_
      rintro k hk
      refine w_state ([(1, Value.int .i64 (max a (-719162))), (2, Value.int .i64 (min b 2932897)), (3, .pointer (some ⟨p3, 0, none⟩)), (7, Value.int .i64 (sW wk (max a (-719162)) ((min b 2932897) - (max a (-719162))) 7 - cnt (fun n => wkOpen wk n && hasI ((comp ds).take k) n) (max a (-719162)) ((min b 2932897) - (max a (-719162))).toNat)), (51, .slice (rowA r49) (comp ds).length (rowC r49)), (52, Value.int .i64 ((comp ds).length : Nat)), (53, Value.int .i64 (k : Nat))]) (rowO 3 r51 ++ [(p3, Obj.cells (calC wk (.slice A ds.length c)).toArray 38)]) ([(w, fun _ => True)]) ?_
      have hsw := sW_rng wk (f := (max a (-719162))) (L := ((min b 2932897) - (max a (-719162)))) (by omega) 7 (by omega)
      have hcn := cnt_rng (fun n => wkOpen wk n && hasI ((comp ds).take k) n) (max a (-719162)) ((min b 2932897) - (max a (-719162))).toNat
      refine w_seq ?_
      refine rg_text ?_
      refine x_bool rfl rfl rfl (v_lss rfl rfl) ?_
      intro b54 hb54
      refine x_end ?_
      refine t_norm ?_
      refine w_seq ?_
      refine w_cond rfl (fun hc54 => ?_) (fun hc54 => ?_)
      · simp only [hb54, decide_eq_true_eq, decide_eq_false_iff_not, Bool.and_eq_true, Bool.or_eq_true, Bool.and_eq_false_iff, Bool.or_eq_false_iff, Bool.not_eq_true', Bool.not_eq_false', ne_eq, Decidable.not_not] at hc54
        have hkl : k < (comp ds).length := by omega
        obtain ⟨b0, cs0, c0, e0, hcs0⟩ := hr51.2.2.cell (j := k) (by simpa using hkl)
        have hA0 : rowA r49 = some ⟨b0, 0, none⟩ := by rw [← hr51.1, e0]; rfl
        have hst := cnt_take (q := wkOpen wk) (f := (max a (-719162))) (L := ((min b 2932897) - (max a (-719162))).toNat) hkl
        rw [comp_new hkl, Bool.not_false, Bool.and_true] at hst
        obtain ⟨q, hq⟩ : ∃ q : Nat, (((comp ds)[k]) + 3) % 7 = (q : Int) := ⟨((((comp ds)[k]) + 3) % 7).toNat, by omega⟩
        have hql : q < 7 := by omega
        refine w_skip ?_
        refine t_norm ?_
        refine w_seq ?_
        refine w_block ?_
        refine w_seq ?_
        refine rg_text ?_
        refine x_val rfl rfl rfl (v_indexAddr Tryd.underlying26 sz3 (congrArg (fun A => some (Value.slice A (comp ds).length (rowC r49))) hA0) rfl (by first | omega | (dsimp only; omega)) rfl) ?_
        refine x_val rfl rfl rfl (v_load Tryd.underlying3 rfl rfl (at_ownL (vs := cs0) (by rw [e0]; exact .head _) (show cs0[0 + k * 1]? = some (Value.int .i64 (comp ds)[k]) from by rw [Nat.mul_one, Nat.zero_add, hcs0, List.getElem_map]))) ?_
        refine x_val rfl rfl rfl (v_assign rfl) ?_
        refine x_end ?_
        refine t_norm ?_
        refine w_seq ?_
        refine rg_text ?_
        refine x_val rfl rfl rfl (v_move rfl) ?_
        refine x_val rfl rfl rfl (v_move rfl) ?_
        refine x_bool rfl rfl rfl (v_geq rfl rfl) ?_
        intro b59 hb59
        refine x_val rfl rfl rfl (v_move rfl) ?_
        refine x_if [] rfl rfl rfl rfl rfl (fun hg => by obtain ⟨hg0, _⟩ := hg; subst hg0; (try simp only [List.cons_append, List.nil_append, gvl_nil, gvl_t, gvl_f]); exact v_move rfl) ?_
        refine x_if [] rfl rfl rfl rfl rfl (fun hg => by obtain ⟨hg0, _⟩ := hg; subst hg0; (try simp only [List.cons_append, List.nil_append, gvl_nil, gvl_t, gvl_f]); exact v_move rfl) ?_
        refine x_ifb [] rfl rfl rfl rfl rfl (fun hg => by obtain ⟨hg0, _⟩ := hg; subst hg0; (try simp only [List.cons_append, List.nil_append, gvl_nil, gvl_t, gvl_f]); exact v_lss rfl rfl) ?_
        intro b63 hb63
        refine x_bool rfl rfl rfl (v_and rfl rfl) ?_
        intro b64 hb64
        refine x_val rfl rfl rfl (v_move rfl) ?_
        refine x_if [] rfl rfl rfl rfl rfl (fun hg => by obtain ⟨hg0, _⟩ := hg; subst hg0; (try simp only [List.cons_append, List.nil_append, gvl_nil, gvl_t, gvl_f]); exact v_move rfl) ?_
        refine x_call_if [] rfl rfl rfl rfl rfl Tryd.func17 (by kernel_rfl) (fun hg => by obtain ⟨hg0, _⟩ := hg; subst hg0; (try simp only [List.cons_append, List.nil_append, gvl_nil, gvl_t, gvl_f]); refine ⟨_, rfl, ?_⟩; exact fun w1 hw1 => c17 _ w1) ?_
        refine x_if [] rfl rfl rfl rfl rfl (fun hg => by obtain ⟨hg0, _⟩ := hg; subst hg0; (try simp only [List.cons_append, List.nil_append, gvl_nil, gvl_t, gvl_f]); exact v_fieldAddr (off' := 0) Tryd.underlying38 rfl sz36 (by decide) rfl rfl) ?_
        refine x_if [] rfl rfl rfl rfl rfl (fun hg => by obtain ⟨hg0, _⟩ := hg; subst hg0; (try simp only [List.cons_append, List.nil_append, gvl_nil, gvl_t, gvl_f]); exact v_indexArr (j := q) (off' := q) Tryd.underlying36 sz4 rfl (congrArg (fun z : Int => some (Value.int .i64 z)) hq) (by omega) (by omega)) ?_
        refine x_ifb [] rfl rfl rfl rfl rfl (fun hg => by obtain ⟨hg0, _⟩ := hg; subst hg0; (try simp only [List.cons_append, List.nil_append, gvl_nil, gvl_t, gvl_f]); exact v_load Tryd.underlying4 rfl rfl (at_ownL (vs := calC wk (.slice A ds.length c)) (List.mem_append_right _ (.head _)) (calC_wk (by omega)))) ?_
        intro b70 hb70
        refine x_ifb [] rfl rfl rfl rfl rfl (fun hg => by obtain ⟨hg0, _⟩ := hg; subst hg0; (try simp only [List.cons_append, List.nil_append, gvl_nil, gvl_t, gvl_f]); exact v_not rfl) ?_
        intro b71 hb71
        refine x_bool rfl rfl rfl (v_and rfl rfl) ?_
        intro b72 hb72
        refine x_end ?_
        refine t_norm ?_
        refine w_cond rfl (fun hc72 => ?_) (fun hc72 => ?_)
        · have e1 : (decide ((max a (-719162)) ≤ (comp ds)[k] ∧ (comp ds)[k] < (max a (-719162)) + (((min b 2932897) - (max a (-719162))).toNat : Nat)) && wkOpen wk (comp ds)[k]) = b72 := by
            rw [hb72, hb64, hb71, hb70, hb63, hb59]; unfold wkOpen; rw [hq, Int.toNat_natCast]; congr 1; rw [← Bool.decide_and]; exact decide_eq_decide.2 (by omega)
          rw [e1, hc72] at hst
          have hst : _ = _ + (1 : Int) := hst
          refine rg_text ?_
          refine x_val rfl rfl rfl (v_move rfl) ?_
          refine x_val rfl rfl rfl (v_subi (c := sW wk (max a (-719162)) ((min b 2932897) - (max a (-719162))) 7 - cnt (fun n => wkOpen wk n && hasI ((comp ds).take (k + 1)) n) (max a (-719162)) ((min b 2932897) - (max a (-719162))).toNat) rfl rfl (by omega) (by omega)) ?_
          refine x_val rfl rfl rfl (v_assign rfl) ?_
          refine x_end ?_
          refine b_norm ?_
          refine t_norm ?_
          refine rg_text ?_
          refine x_val rfl rfl rfl (v_addi rfl rfl rfl (by first | omega | (dsimp only; omega))) ?_
          refine x_val rfl rfl rfl (v_move rfl) ?_
          refine x_end ?_
          exact l_norm (k + 1) (show k + 1 ≤ (comp ds).length by omega) (by omega) (by repeat (first | exact Sub.nil | refine Sub.cons rfl ?_)) (fun _ h => h)
        · have e1 : (decide ((max a (-719162)) ≤ (comp ds)[k] ∧ (comp ds)[k] < (max a (-719162)) + (((min b 2932897) - (max a (-719162))).toNat : Nat)) && wkOpen wk (comp ds)[k]) = b72 := by
            rw [hb72, hb64, hb71, hb70, hb63, hb59]; unfold wkOpen; rw [hq, Int.toNat_natCast]; congr 1; rw [← Bool.decide_and]; exact decide_eq_decide.2 (by omega)
          rw [e1, hc72] at hst
          have hst : _ = _ + (0 : Int) := hst
          refine w_skip ?_
          refine b_norm ?_
          refine t_norm ?_
          refine rg_text ?_
          refine x_val rfl rfl rfl (v_addi rfl rfl rfl (by first | omega | (dsimp only; omega))) ?_
          refine x_val rfl rfl rfl (v_move rfl) ?_
          refine x_end ?_
          rw [show cnt (fun n => wkOpen wk n && hasI ((comp ds).take k) n) (max a (-719162)) ((min b 2932897) - (max a (-719162))).toNat = cnt (fun n => wkOpen wk n && hasI ((comp ds).take (k + 1)) n) (max a (-719162)) ((min b 2932897) - (max a (-719162))).toNat by omega]
          exact l_norm (k + 1) (show k + 1 ≤ (comp ds).length by omega) (by omega) (by repeat (first | exact Sub.nil | refine Sub.cons rfl ?_)) (fun _ h => h)
      · simp only [hb54, decide_eq_true_eq, decide_eq_false_iff_not, Bool.and_eq_true, Bool.or_eq_true, Bool.and_eq_false_iff, Bool.or_eq_false_iff, Bool.not_eq_true', Bool.not_eq_false', ne_eq, Decidable.not_not] at hc54
        obtain rfl : k = (comp ds).length := by omega
        refine w_exit ?_
        refine t_exit ?_
        refine t_exit ?_
        refine b_hit ?_
        refine t_norm ?_
        refine w_seq ?_
        refine rg_text ?_
        refine x_val rfl rfl rfl (v_move rfl) ?_
        refine x_val rfl rfl rfl (v_assign rfl) ?_
        refine x_end ?_
        refine t_norm ?_
        refine w_ret ?_
        refine ret1 rfl rfl (fun w' hm => ⟨?_, hm.base (by simp)⟩)
        rw [List.take_length, cnt_mem (l := comp ds) (l' := ds) (fun n => comp_mem)]; unfold cntP; rw [← cnt_open (by omega) (by omega), hLn]

end Go.Proofs.YtffdbbcmibamjaaDoor

namespace Go.Proofs.YtffdbbcmibamjaaDoor
open Go.RowKit Go.PK
set_option linter.unusedVariables false
set_option linter.unusedSimpArgs false
set_option maxRecDepth 100000 in
theorem c26 {v : Value} {ds : List Int} {D : Nat → Prop} {wk : List Bool} (a b : Int) (w : World) (hds : sliceRd tyI D w v ds) (hwk : wk.length = 7) (hl : ds.length ≤ 20) :
    Calls Tryd.prog 26 #[.agg (calC wk v).toArray, .int .i64 a, .int .i64 b] w fun e w' => e = .returned (.int .i64 (cntP wk ds a b)) ∧ Later w w' := by
  have hds0 := hds
  obtain ⟨A, c, rfl, hlc, hmx, hA⟩ := id hds
  refine enter (vs := [.agg (calC wk (.slice A ds.length c)).toArray, .int .i64 a, .int .i64 b]) Tryd.func26 rfl Tryd.ntmps26 rfl ?_
  refine w_seq ?_
  refine rg_text ?_
  refine x_box rfl rfl rfl rfl ?_
  intro p3
  refine x_val rfl rfl rfl (v_assign rfl) ?_
  refine x_end ?_
  refine t_norm ?_
  refine w_seq ?_
  refine rg_text ?_
  refine x_val rfl rfl rfl (v_move rfl) ?_
  refine x_val rfl rfl rfl (v_max rfl rfl) ?_
  refine x_val rfl rfl rfl (v_assign rfl) ?_
  refine x_end ?_
  refine t_norm ?_
  refine w_seq ?_
  refine rg_text ?_
  refine x_val rfl rfl rfl (v_move rfl) ?_
  refine x_val rfl rfl rfl (v_min rfl rfl) ?_
  refine x_val rfl rfl rfl (v_assign rfl) ?_
  refine x_end ?_
  refine t_norm ?_
  refine w_seq ?_
  refine w_seq ?_
  refine rg_text ?_
  refine x_val rfl rfl rfl (v_move rfl) ?_
  refine x_val rfl rfl rfl (v_move rfl) ?_
  refine x_bool rfl rfl rfl (v_geq rfl rfl) ?_
  intro b19 hb19
  refine x_end ?_
  refine t_norm ?_
  refine w_cond rfl (fun hc19 => ?_) (fun hc19 => ?_)
  · simp only [hb19, decide_eq_true_eq, decide_eq_false_iff_not, Bool.and_eq_true, Bool.or_eq_true, Bool.and_eq_false_iff, Bool.or_eq_false_iff, Bool.not_eq_true', Bool.not_eq_false', ne_eq, Decidable.not_not] at hc19
    skip
    refine w_seq ?_
    refine rg_text ?_
    refine x_val rfl rfl rfl (v_assign rfl) ?_
    refine x_end ?_
    refine t_norm ?_
    refine w_ret ?_
    refine t_ret ?_
    refine ret1 rfl rfl (fun w' hm => ⟨?_, hm.base (by simp)⟩)
    unfold cntP; rw [cnt_zero (by omega)]
  · simp only [hb19, decide_eq_true_eq, decide_eq_false_iff_not, Bool.and_eq_true, Bool.or_eq_true, Bool.and_eq_false_iff, Bool.or_eq_false_iff, Bool.not_eq_true', Bool.not_eq_false', ne_eq, Decidable.not_not] at hc19
    refine w_skip ?_
    refine t_norm ?_
    refine w_seq ?_
    refine rg_text ?_
    refine x_val rfl rfl rfl (v_assign rfl) ?_
    refine x_end ?_
    refine t_norm ?_
    refine w_seq ?_
    refine w_seq ?_
    refine rg_text ?_
    refine x_val rfl rfl rfl (v_assign rfl) ?_
    refine x_end ?_
    refine t_norm ?_
    refine w_block ?_
    refine w_loop (σ := Nat) (fun k => k ≤ 7) (fun k => [(1, Value.int .i64 (max a (-719162))), (2, Value.int .i64 (min b 2932897)), (3, .pointer (some ⟨p3, 0, none⟩)), (7, Value.int .i64 (sW wk (max a (-719162)) ((min b 2932897) - (max a (-719162))) k)), (8, Value.int .i64 (k : Nat))]) (fun k => [(p3, Obj.cells (calC wk (.slice A ds.length c)).toArray 38)]) (fun k => [(w, fun _ => True)]) (fun k => 7 - k) (0) (by omega) (l_start (by repeat (first | exact Sub.nil | refine Sub.cons rfl ?_)) (fun _ h => h)) ?_
    rintro k hk
    refine w_state ([(1, Value.int .i64 (max a (-719162))), (2, Value.int .i64 (min b 2932897)), (3, .pointer (some ⟨p3, 0, none⟩)), (7, Value.int .i64 (sW wk (max a (-719162)) ((min b 2932897) - (max a (-719162))) k)), (8, Value.int .i64 (k : Nat))]) ([(p3, Obj.cells (calC wk (.slice A ds.length c)).toArray 38)]) ([(w, fun _ => True)]) ?_
    have hsw := sW_rng wk (f := (max a (-719162))) (L := ((min b 2932897) - (max a (-719162)))) (by omega) k (by omega)
    have hkl : (k : Int) * ((min b 2932897) - (max a (-719162))) ≤ 7 * ((min b 2932897) - (max a (-719162))) := Int.mul_le_mul_of_nonneg_right (by omega) (by omega)
    refine w_seq ?_
    refine w_seq ?_
    refine rg_text ?_
    refine x_val rfl rfl rfl (v_move rfl) ?_
    refine x_bool rfl rfl rfl (v_lss rfl rfl) ?_
    intro b21 hb21
    refine x_end ?_
    refine t_norm ?_
    refine w_cond rfl (fun hc21 => ?_) (fun hc21 => ?_)
    · simp only [hb21, decide_eq_true_eq, decide_eq_false_iff_not, Bool.and_eq_true, Bool.or_eq_true, Bool.and_eq_false_iff, Bool.or_eq_false_iff, Bool.not_eq_true', Bool.not_eq_false', ne_eq, Decidable.not_not] at hc21
      obtain ⟨q, hq⟩ : ∃ q : Nat, (((max a (-719162)) + (k : Int)) + 3) % 7 = (q : Int) := ⟨((((max a (-719162)) + (k : Int)) + 3) % 7).toNat, by omega⟩
      have hql : q < 7 := by omega
      refine w_skip ?_
      refine t_norm ?_
      refine w_seq ?_
      refine w_block ?_
      refine w_seq ?_
      refine w_seq ?_
      refine rg_text ?_
      refine x_val rfl rfl rfl (v_move rfl) ?_
      refine x_val rfl rfl rfl (v_move rfl) ?_
      refine x_val rfl rfl rfl (v_addi rfl rfl rfl (by first | omega | (dsimp only; omega))) ?_
      refine x_callv rfl rfl rfl Tryd.func18 (by kernel_rfl) rfl (fun w1 hw1 => c18 _ w1) ?_
      refine x_val rfl rfl rfl (v_fieldAddr (off' := 0) Tryd.underlying38 rfl sz36 (by decide) rfl rfl) ?_
      refine x_val rfl rfl rfl (v_indexArr (j := q) (off' := q) Tryd.underlying36 sz4 rfl (congrArg (fun z : Int => some (Value.int .i64 z)) hq) (by omega) (by omega)) ?_
      refine x_bool rfl rfl rfl (v_load Tryd.underlying4 rfl rfl (at_ownL (vs := calC wk (.slice A ds.length c)) (.head _) (calC_wk (by omega)))) ?_
      intro b30 hb30
      refine x_end ?_
      refine t_norm ?_
      refine w_cond rfl (fun hc30 => ?_) (fun hc30 => ?_)
      · have ho : wkOpen wk ((max a (-719162)) + (k : Int)) = false := by unfold wkOpen; rw [hq, Int.toNat_natCast, ← hb30, hc30]; rfl
        refine w_exit ?_
        refine t_exit ?_
        refine b_hit ?_
        refine t_norm ?_
        refine rg_text ?_
        refine x_val rfl rfl rfl (v_move rfl) ?_
        refine x_val rfl rfl rfl (v_addi rfl rfl rfl (by first | omega | (dsimp only; omega))) ?_
        refine x_val rfl rfl rfl (v_assign rfl) ?_
        refine x_end ?_
        have hst : sW wk (max a (-719162)) ((min b 2932897) - (max a (-719162))) (k + 1) = sW wk (max a (-719162)) ((min b 2932897) - (max a (-719162))) k + tW wk (max a (-719162)) ((min b 2932897) - (max a (-719162))) k := rfl
        have ht : tW wk (max a (-719162)) ((min b 2932897) - (max a (-719162))) k = 0 := by unfold tW; rw [if_neg (by rw [ho]; exact Bool.false_ne_true)]
        rw [show sW wk (max a (-719162)) ((min b 2932897) - (max a (-719162))) k = sW wk (max a (-719162)) ((min b 2932897) - (max a (-719162))) (k + 1) by omega]
        exact l_norm (k + 1) (by omega) (by omega) (by repeat (first | exact Sub.nil | refine Sub.cons rfl ?_)) (fun _ h => h)
      · have ho : wkOpen wk ((max a (-719162)) + (k : Int)) = true := by unfold wkOpen; rw [hq, Int.toNat_natCast, ← hb30, hc30]; rfl
        refine w_skip ?_
        refine t_norm ?_
        refine rg_text ?_
        refine x_val rfl rfl rfl (v_move rfl) ?_
        refine x_val rfl rfl rfl (v_move rfl) ?_
        refine x_val rfl rfl rfl (v_move rfl) ?_
        refine x_val rfl rfl rfl (v_subi rfl rfl rfl (by first | omega | (dsimp only; omega))) ?_
        refine x_val rfl rfl rfl (v_addi rfl rfl rfl (by first | omega | (dsimp only; omega))) ?_
        refine x_val rfl rfl rfl (v_move rfl) ?_
        refine x_val rfl rfl rfl (v_subi rfl rfl rfl (by first | omega | (dsimp only; omega))) ?_
        refine x_val rfl rfl rfl (v_quoi (c := (((min b 2932897) - (max a (-719162))) - k + 6) / 7) rfl rfl (by decide) (by rw [Int.tdiv_eq_ediv_of_nonneg (by omega)]; congr 1; omega) (by omega)) ?_
        have hst : sW wk (max a (-719162)) ((min b 2932897) - (max a (-719162))) (k + 1) = sW wk (max a (-719162)) ((min b 2932897) - (max a (-719162))) k + tW wk (max a (-719162)) ((min b 2932897) - (max a (-719162))) k := rfl
        have ht : tW wk (max a (-719162)) ((min b 2932897) - (max a (-719162))) k = (((min b 2932897) - (max a (-719162))) - k + 6) / 7 := by unfold tW; rw [if_pos ho]
        refine x_val rfl rfl rfl (v_addi (c := sW wk (max a (-719162)) ((min b 2932897) - (max a (-719162))) (k + 1)) rfl rfl (by omega) (by omega)) ?_
        refine x_val rfl rfl rfl (v_assign rfl) ?_
        refine x_end ?_
        refine b_norm ?_
        refine t_norm ?_
        refine rg_text ?_
        refine x_val rfl rfl rfl (v_move rfl) ?_
        refine x_val rfl rfl rfl (v_addi rfl rfl rfl (by first | omega | (dsimp only; omega))) ?_
        refine x_val rfl rfl rfl (v_assign rfl) ?_
        refine x_end ?_
        exact l_norm (k + 1) (by omega) (by omega) (by repeat (first | exact Sub.nil | refine Sub.cons rfl ?_)) (fun _ h => h)
    · simp only [hb21, decide_eq_true_eq, decide_eq_false_iff_not, Bool.and_eq_true, Bool.or_eq_true, Bool.and_eq_false_iff, Bool.or_eq_false_iff, Bool.not_eq_true', Bool.not_eq_false', ne_eq, Decidable.not_not] at hc21
      have hLn : ((((min b 2932897) - (max a (-719162))).toNat : Nat) : Int) = ((min b 2932897) - (max a (-719162))) := by omega
      obtain rfl : k = 7 := by omega
      rw [show sW wk (max a (-719162)) ((min b 2932897) - (max a (-719162))) 7 = sW wk (max a (-719162)) ((min b 2932897) - (max a (-719162))) 7 - cnt (fun n => wkOpen wk n && hasI (ds.take 0) n) (max a (-719162)) ((min b 2932897) - (max a (-719162))).toNat from by rw [List.take_zero, cnt_nil]; omega]
      refine w_exit ?_
      refine t_exit ?_
      refine t_exit ?_
      refine b_hit ?_
      refine t_norm ?_
      refine w_seq ?_
      refine w_seq ?_
      refine rg_text ?_
      refine x_val rfl rfl rfl (v_assign rfl) ?_
      refine x_end ?_
      refine t_norm ?_
      refine w_block ?_
      refine w_loop (σ := Nat) (fun k => k ≤ ds.length) (fun k => [(1, Value.int .i64 (max a (-719162))), (2, Value.int .i64 (min b 2932897)), (3, .pointer (some ⟨p3, 0, none⟩)), (7, Value.int .i64 (sW wk (max a (-719162)) ((min b 2932897) - (max a (-719162))) 7 - cnt (fun n => wkOpen wk n && hasI (ds.take k) n) (max a (-719162)) ((min b 2932897) - (max a (-719162))).toNat)), (9, Value.int .i64 (k : Nat))]) (fun k => [(p3, Obj.cells (calC wk (.slice A ds.length c)).toArray 38)]) (fun k => [(w, fun _ => True)]) (fun k => ds.length - k) (0) (Nat.zero_le _) (l_start (by repeat (first | exact Sub.nil | refine Sub.cons rfl ?_)) (fun _ h => h)) ?_
      rintro k hk
      refine w_state ([(1, Value.int .i64 (max a (-719162))), (2, Value.int .i64 (min b 2932897)), (3, .pointer (some ⟨p3, 0, none⟩)), (7, Value.int .i64 (sW wk (max a (-719162)) ((min b 2932897) - (max a (-719162))) 7 - cnt (fun n => wkOpen wk n && hasI (ds.take k) n) (max a (-719162)) ((min b 2932897) - (max a (-719162))).toNat)), (9, Value.int .i64 (k : Nat))]) ([(p3, Obj.cells (calC wk (.slice A ds.length c)).toArray 38)]) ([(w, fun _ => True)]) ?_
      have hsw := sW_rng wk (f := (max a (-719162))) (L := ((min b 2932897) - (max a (-719162)))) (by omega) 7 (by omega)
      have hcn := cnt_rng (fun n => wkOpen wk n && hasI (ds.take k) n) (max a (-719162)) ((min b 2932897) - (max a (-719162))).toNat
      refine w_seq ?_
      refine w_seq ?_
      refine rg_text ?_
      refine x_val rfl rfl rfl (v_move rfl) ?_
      refine x_val rfl rfl rfl (v_fieldAddr (off' := 7) Tryd.underlying38 rfl sz26 (by decide) rfl rfl) ?_
      refine x_val rfl rfl rfl (v_load Tryd.underlying26 rfl rfl (at_ownL (vs := calC wk (.slice A ds.length c)) (.head _) (calC_v hwk))) ?_
      refine x_val rfl rfl rfl (v_len_slice Tryd.underlying26 rfl) ?_
      refine x_bool rfl rfl rfl (v_lss rfl rfl) ?_
      intro b44 hb44
      refine x_end ?_
      refine t_norm ?_
      refine w_cond rfl (fun hc44 => ?_) (fun hc44 => ?_)
      · simp only [hb44, decide_eq_true_eq, decide_eq_false_iff_not, Bool.and_eq_true, Bool.or_eq_true, Bool.and_eq_false_iff, Bool.or_eq_false_iff, Bool.not_eq_true', Bool.not_eq_false', ne_eq, Decidable.not_not] at hc44
        have hkl : k < ds.length := by omega
        obtain ⟨b0, o0, hA0, hD0, hc0, hin⟩ := int_at hds hkl
        have hst := cnt_take (q := wkOpen wk) (f := (max a (-719162))) (L := ((min b 2932897) - (max a (-719162))).toNat) hkl
        obtain ⟨q, hq⟩ : ∃ q : Nat, ((ds[k]) + 3) % 7 = (q : Int) := ⟨(((ds[k]) + 3) % 7).toNat, by omega⟩
        have hql : q < 7 := by omega
        refine w_skip ?_
        refine t_norm ?_
        refine w_seq ?_
        refine w_block ?_
        refine w_seq ?_
        refine rg_text ?_
        refine x_val rfl rfl rfl (v_fieldAddr (off' := 7) Tryd.underlying38 rfl sz26 (by decide) rfl rfl) ?_
        refine x_val rfl rfl rfl (v_load Tryd.underlying26 rfl rfl (at_ownL (vs := calC wk (.slice A ds.length c)) (.head _) (calC_v hwk))) ?_
        refine x_val rfl rfl rfl (v_move rfl) ?_
        refine x_val rfl rfl rfl (v_indexAddr Tryd.underlying26 sz3 (congrArg (fun A => some (Value.slice A ds.length c)) hA0) rfl (by first | omega | (dsimp only; omega)) rfl) ?_
        refine x_val rfl rfl rfl (v_load Tryd.underlying3 rfl rfl (at_ro (.head _) trivial (by rw [Nat.mul_one]; exact hc0))) ?_
        refine x_val rfl rfl rfl (v_assign rfl) ?_
        refine x_end ?_
        refine t_norm ?_
        refine w_seq ?_
        refine rg_text ?_
        refine x_val rfl rfl rfl (v_assign rfl) ?_
        refine x_end ?_
        refine t_norm ?_
        refine w_seq ?_
        refine w_seq ?_
        refine rg_text ?_
        refine x_val rfl rfl rfl (v_assign rfl) ?_
        refine x_end ?_
        refine t_norm ?_
        refine w_block ?_
        refine w_loop (σ := Nat) (fun j => j ≤ k) (fun j => [(1, Value.int .i64 (max a (-719162))), (2, Value.int .i64 (min b 2932897)), (3, .pointer (some ⟨p3, 0, none⟩)), (7, Value.int .i64 (sW wk (max a (-719162)) ((min b 2932897) - (max a (-719162))) 7 - cnt (fun n => wkOpen wk n && hasI (ds.take k) n) (max a (-719162)) ((min b 2932897) - (max a (-719162))).toNat)), (9, Value.int .i64 (k : Nat)), (10, Value.int .i64 ds[k]), (11, Value.bool (hasI (ds.take j) ds[k])), (12, Value.int .i64 (j : Nat))]) (fun j => [(p3, Obj.cells (calC wk (.slice A ds.length c)).toArray 38)]) (fun j => [(w, fun _ => True)]) (fun j => k - j) (0) (Nat.zero_le _) (l_start (by repeat (first | exact Sub.nil | refine Sub.cons rfl ?_)) (fun _ h => h)) ?_
        rintro j hj
        refine w_state ([(1, Value.int .i64 (max a (-719162))), (2, Value.int .i64 (min b 2932897)), (3, .pointer (some ⟨p3, 0, none⟩)), (7, Value.int .i64 (sW wk (max a (-719162)) ((min b 2932897) - (max a (-719162))) 7 - cnt (fun n => wkOpen wk n && hasI (ds.take k) n) (max a (-719162)) ((min b 2932897) - (max a (-719162))).toNat)), (9, Value.int .i64 (k : Nat)), (10, Value.int .i64 ds[k]), (11, Value.bool (hasI (ds.take j) ds[k])), (12, Value.int .i64 (j : Nat))]) ([(p3, Obj.cells (calC wk (.slice A ds.length c)).toArray 38)]) ([(w, fun _ => True)]) ?_
        obtain ⟨ag, hag⟩ : ∃ ag, ag = hasI (ds.take j) ds[k] := ⟨_, rfl⟩
        rw [← hag]
        refine w_seq ?_
        refine w_seq ?_
        refine rg_text ?_
        refine x_val rfl rfl rfl (v_move rfl) ?_
        refine x_val rfl rfl rfl (v_move rfl) ?_
        refine x_bool rfl rfl rfl (v_lss rfl rfl) ?_
        intro b54 hb54
        refine x_end ?_
        refine t_norm ?_
        refine w_cond rfl (fun hc54 => ?_) (fun hc54 => ?_)
        · simp only [hb54, decide_eq_true_eq, decide_eq_false_iff_not, Bool.and_eq_true, Bool.or_eq_true, Bool.and_eq_false_iff, Bool.or_eq_false_iff, Bool.not_eq_true', Bool.not_eq_false', ne_eq, Decidable.not_not] at hc54
          have hjk : j < k := by omega
          obtain ⟨b1, o1, hA1, hD1, hc1, hin1⟩ := int_at hds (show j < ds.length by omega)
          refine w_skip ?_
          refine t_norm ?_
          refine w_seq ?_
          refine w_block ?_
          refine rg_text ?_
          refine x_val rfl rfl rfl (v_move rfl) ?_
          refine x_val rfl rfl rfl (v_move rfl) ?_
          refine x_if [] rfl rfl rfl rfl rfl (fun hg => by obtain ⟨hg0, _⟩ := hg; subst hg0; (try simp only [List.cons_append, List.nil_append, gvl_nil, gvl_t, gvl_f]); exact v_fieldAddr (off' := 7) Tryd.underlying38 rfl sz26 (by decide) rfl rfl) ?_
          refine x_if [] rfl rfl rfl rfl rfl (fun hg => by obtain ⟨hg0, _⟩ := hg; subst hg0; (try simp only [List.cons_append, List.nil_append, gvl_nil, gvl_t, gvl_f]); exact v_load Tryd.underlying26 rfl rfl (at_ownL (vs := calC wk (.slice A ds.length c)) (.head _) (calC_v hwk))) ?_
          refine x_if [] rfl rfl rfl rfl rfl (fun hg => by obtain ⟨hg0, _⟩ := hg; subst hg0; (try simp only [List.cons_append, List.nil_append, gvl_nil, gvl_t, gvl_f]); exact v_move rfl) ?_
          refine x_if [] rfl rfl rfl rfl rfl (fun hg => by obtain ⟨hg0, _⟩ := hg; subst hg0; (try simp only [List.cons_append, List.nil_append, gvl_nil, gvl_t, gvl_f]); exact v_indexAddr Tryd.underlying26 sz3 (congrArg (fun A => some (Value.slice A ds.length c)) hA1) rfl (by first | omega | (dsimp only; omega)) rfl) ?_
          refine x_if [] rfl rfl rfl rfl rfl (fun hg => by obtain ⟨hg0, _⟩ := hg; subst hg0; (try simp only [List.cons_append, List.nil_append, gvl_nil, gvl_t, gvl_f]); exact v_load Tryd.underlying3 rfl rfl (at_ro (.head _) trivial (by rw [Nat.mul_one]; exact hc1))) ?_
          refine x_if [] rfl rfl rfl rfl rfl (fun hg => by obtain ⟨hg0, _⟩ := hg; subst hg0; (try simp only [List.cons_append, List.nil_append, gvl_nil, gvl_t, gvl_f]); exact v_move rfl) ?_
          refine x_ifb [] rfl rfl rfl rfl rfl (fun hg => by obtain ⟨hg0, _⟩ := hg; subst hg0; (try simp only [List.cons_append, List.nil_append, gvl_nil, gvl_t, gvl_f]); exact v_eql rfl rfl) ?_
          intro b65 hb65
          refine x_bool rfl rfl rfl (v_or rfl rfl) ?_
          intro b66 hb66
          refine x_val rfl rfl rfl (v_assign rfl) ?_
          refine x_end ?_
          refine b_norm ?_
          refine t_norm ?_
          refine rg_text ?_
          refine x_val rfl rfl rfl (v_move rfl) ?_
          refine x_val rfl rfl rfl (v_addi rfl rfl rfl (by first | omega | (dsimp only; omega))) ?_
          refine x_val rfl rfl rfl (v_assign rfl) ?_
          refine x_end ?_
          have e : b66 = hasI (ds.take (j + 1)) ds[k] := by rw [hb66, hb65, hag, hasI_take (by omega)]; congr 1; exact decide_eq_decide.2 eq_comm
          rw [e]
          exact l_norm (j + 1) (show j + 1 ≤ k by omega) (by omega) (by repeat (first | exact Sub.nil | refine Sub.cons rfl ?_)) (fun _ h => h)
        · simp only [hb54, decide_eq_true_eq, decide_eq_false_iff_not, Bool.and_eq_true, Bool.or_eq_true, Bool.and_eq_false_iff, Bool.or_eq_false_iff, Bool.not_eq_true', Bool.not_eq_false', ne_eq, Decidable.not_not] at hc54
          have hjk : j = k := by omega
          rw [hjk] at hag
          refine w_exit ?_
          refine t_exit ?_
          refine t_exit ?_
          refine b_hit ?_
          refine t_norm ?_
          refine w_seq ?_
          refine rg_text ?_
          refine x_val rfl rfl rfl (v_move rfl) ?_
          refine x_val rfl rfl rfl (v_move rfl) ?_
          refine x_bool rfl rfl rfl (v_geq rfl rfl) ?_
          intro b69 hb69
          refine x_val rfl rfl rfl (v_move rfl) ?_
          refine x_if [] rfl rfl rfl rfl rfl (fun hg => by obtain ⟨hg0, _⟩ := hg; subst hg0; (try simp only [List.cons_append, List.nil_append, gvl_nil, gvl_t, gvl_f]); exact v_move rfl) ?_
          refine x_if [] rfl rfl rfl rfl rfl (fun hg => by obtain ⟨hg0, _⟩ := hg; subst hg0; (try simp only [List.cons_append, List.nil_append, gvl_nil, gvl_t, gvl_f]); exact v_move rfl) ?_
          refine x_ifb [] rfl rfl rfl rfl rfl (fun hg => by obtain ⟨hg0, _⟩ := hg; subst hg0; (try simp only [List.cons_append, List.nil_append, gvl_nil, gvl_t, gvl_f]); exact v_lss rfl rfl) ?_
          intro b73 hb73
          refine x_bool rfl rfl rfl (v_and rfl rfl) ?_
          intro b74 hb74
          refine x_val rfl rfl rfl (v_move rfl) ?_
          refine x_if [] rfl rfl rfl rfl rfl (fun hg => by obtain ⟨hg0, _⟩ := hg; subst hg0; (try simp only [List.cons_append, List.nil_append, gvl_nil, gvl_t, gvl_f]); exact v_move rfl) ?_
          refine x_ifb [] rfl rfl rfl rfl rfl (fun hg => by obtain ⟨hg0, _⟩ := hg; subst hg0; (try simp only [List.cons_append, List.nil_append, gvl_nil, gvl_t, gvl_f]); exact v_not rfl) ?_
          intro b77 hb77
          refine x_bool rfl rfl rfl (v_and rfl rfl) ?_
          intro b78 hb78
          refine x_val rfl rfl rfl (v_move rfl) ?_
          refine x_if [] rfl rfl rfl rfl rfl (fun hg => by obtain ⟨hg0, _⟩ := hg; subst hg0; (try simp only [List.cons_append, List.nil_append, gvl_nil, gvl_t, gvl_f]); exact v_move rfl) ?_
          refine x_call_if [] rfl rfl rfl rfl rfl Tryd.func18 (by kernel_rfl) (fun hg => by obtain ⟨hg0, _⟩ := hg; subst hg0; (try simp only [List.cons_append, List.nil_append, gvl_nil, gvl_t, gvl_f]); refine ⟨_, rfl, ?_⟩; exact fun w1 hw1 => c18 _ w1) ?_
          refine x_if [] rfl rfl rfl rfl rfl (fun hg => by obtain ⟨hg0, _⟩ := hg; subst hg0; (try simp only [List.cons_append, List.nil_append, gvl_nil, gvl_t, gvl_f]); exact v_fieldAddr (off' := 0) Tryd.underlying38 rfl sz36 (by decide) rfl rfl) ?_
          refine x_if [] rfl rfl rfl rfl rfl (fun hg => by obtain ⟨hg0, _⟩ := hg; subst hg0; (try simp only [List.cons_append, List.nil_append, gvl_nil, gvl_t, gvl_f]); exact v_indexArr (j := q) (off' := q) Tryd.underlying36 sz4 rfl (congrArg (fun z : Int => some (Value.int .i64 z)) hq) (by omega) (by omega)) ?_
          refine x_ifb [] rfl rfl rfl rfl rfl (fun hg => by obtain ⟨hg0, _⟩ := hg; subst hg0; (try simp only [List.cons_append, List.nil_append, gvl_nil, gvl_t, gvl_f]); exact v_load Tryd.underlying4 rfl rfl (at_ownL (vs := calC wk (.slice A ds.length c)) (.head _) (calC_wk (by omega)))) ?_
          intro b84 hb84
          refine x_ifb [] rfl rfl rfl rfl rfl (fun hg => by obtain ⟨hg0, _⟩ := hg; subst hg0; (try simp only [List.cons_append, List.nil_append, gvl_nil, gvl_t, gvl_f]); exact v_not rfl) ?_
          intro b85 hb85
          refine x_bool rfl rfl rfl (v_and rfl rfl) ?_
          intro b86 hb86
          refine x_end ?_
          refine t_norm ?_
          refine w_cond rfl (fun hc86 => ?_) (fun hc86 => ?_)
          · have e1 : (decide ((max a (-719162)) ≤ ds[k] ∧ ds[k] < (max a (-719162)) + (((min b 2932897) - (max a (-719162))).toNat : Nat)) && (wkOpen wk ds[k] && !hasI (ds.take k) ds[k])) = b86 := by
              have d : decide ((max a (-719162)) ≤ ds[k] ∧ ds[k] < (max a (-719162)) + (((min b 2932897) - (max a (-719162))).toNat : Nat)) = (decide (ds[k] ≥ (max a (-719162))) && decide (ds[k] < (min b 2932897))) := by rw [← Bool.decide_and]; exact decide_eq_decide.2 (by omega)
              rw [d, hb86, hb85, hb84, hb78, hb77, hb74, hb73, hb69, ← hag]; unfold wkOpen; rw [hq, Int.toNat_natCast]
              generalize wk.getD q false = u1; generalize decide (ds[k] < (min b 2932897)) = u2; generalize decide (ds[k] ≥ (max a (-719162))) = u3
              cases u1 <;> cases u2 <;> cases u3 <;> cases ag <;> rfl
            rw [e1, hc86] at hst
            have hst : _ = _ + (1 : Int) := hst
            refine rg_text ?_
            refine x_val rfl rfl rfl (v_move rfl) ?_
            refine x_val rfl rfl rfl (v_subi (c := sW wk (max a (-719162)) ((min b 2932897) - (max a (-719162))) 7 - cnt (fun n => wkOpen wk n && hasI (ds.take (k + 1)) n) (max a (-719162)) ((min b 2932897) - (max a (-719162))).toNat) rfl rfl (by omega) (by omega)) ?_
            refine x_val rfl rfl rfl (v_assign rfl) ?_
            refine x_end ?_
            refine b_norm ?_
            refine t_norm ?_
            refine rg_text ?_
            refine x_val rfl rfl rfl (v_move rfl) ?_
            refine x_val rfl rfl rfl (v_addi rfl rfl rfl (by first | omega | (dsimp only; omega))) ?_
            refine x_val rfl rfl rfl (v_assign rfl) ?_
            refine x_end ?_
            exact l_norm (k + 1) (show k + 1 ≤ ds.length by omega) (by omega) (by repeat (first | exact Sub.nil | refine Sub.cons rfl ?_)) (fun _ h => h)
          · have e1 : (decide ((max a (-719162)) ≤ ds[k] ∧ ds[k] < (max a (-719162)) + (((min b 2932897) - (max a (-719162))).toNat : Nat)) && (wkOpen wk ds[k] && !hasI (ds.take k) ds[k])) = b86 := by
              have d : decide ((max a (-719162)) ≤ ds[k] ∧ ds[k] < (max a (-719162)) + (((min b 2932897) - (max a (-719162))).toNat : Nat)) = (decide (ds[k] ≥ (max a (-719162))) && decide (ds[k] < (min b 2932897))) := by rw [← Bool.decide_and]; exact decide_eq_decide.2 (by omega)
              rw [d, hb86, hb85, hb84, hb78, hb77, hb74, hb73, hb69, ← hag]; unfold wkOpen; rw [hq, Int.toNat_natCast]
              generalize wk.getD q false = u1; generalize decide (ds[k] < (min b 2932897)) = u2; generalize decide (ds[k] ≥ (max a (-719162))) = u3
              cases u1 <;> cases u2 <;> cases u3 <;> cases ag <;> rfl
            rw [e1, hc86] at hst
            have hst : _ = _ + (0 : Int) := hst
            refine w_skip ?_
            refine b_norm ?_
            refine t_norm ?_
            refine rg_text ?_
            refine x_val rfl rfl rfl (v_move rfl) ?_
            refine x_val rfl rfl rfl (v_addi rfl rfl rfl (by first | omega | (dsimp only; omega))) ?_
            refine x_val rfl rfl rfl (v_assign rfl) ?_
            refine x_end ?_
            rw [show cnt (fun n => wkOpen wk n && hasI (ds.take k) n) (max a (-719162)) ((min b 2932897) - (max a (-719162))).toNat = cnt (fun n => wkOpen wk n && hasI (ds.take (k + 1)) n) (max a (-719162)) ((min b 2932897) - (max a (-719162))).toNat by omega]
            exact l_norm (k + 1) (show k + 1 ≤ ds.length by omega) (by omega) (by repeat (first | exact Sub.nil | refine Sub.cons rfl ?_)) (fun _ h => h)
      · simp only [hb44, decide_eq_true_eq, decide_eq_false_iff_not, Bool.and_eq_true, Bool.or_eq_true, Bool.and_eq_false_iff, Bool.or_eq_false_iff, Bool.not_eq_true', Bool.not_eq_false', ne_eq, Decidable.not_not] at hc44
        obtain rfl : k = ds.length := by omega
        refine w_exit ?_
        refine t_exit ?_
        refine t_exit ?_
        refine b_hit ?_
        refine t_norm ?_
        refine w_seq ?_
        refine rg_text ?_
        refine x_val rfl rfl rfl (v_move rfl) ?_
        refine x_val rfl rfl rfl (v_assign rfl) ?_
        refine x_end ?_
        refine t_norm ?_
        refine w_ret ?_
        refine ret1 rfl rfl (fun w' hm => ⟨?_, hm.base (by simp)⟩)
        rw [List.take_length]; unfold cntP; rw [← cnt_open (by omega) (by omega), hLn]

end Go.Proofs.YtffdbbcmibamjaaDoor

namespace Go.Proofs.YtffdbbcmibamjaaDoor
open Go.RowKit Go.PK
set_option linter.unusedVariables false
set_option linter.unusedSimpArgs false

theorem ap3 : (Tryd.prog.info? 3).map (fun j => (j.zero, j.size, j.bytes)) = some (some (.int .i64 0), 1, 8) := by kernel_rfl
set_option maxRecDepth 100000 in
theorem c22 (u near : Int) {D : Nat → Prop} {v : Value} {l : List Int} (w : World) (hu : 0 ≤ u ∧ u ≤ 255) (hls : sliceRd (tyK .u8) D w v l) :
    Calls Tryd.prog 22 #[.int .u8 u, .int .i64 near, v] w fun e w' => ∃ v', e = .returned v' ∧ Later w w' ∧ ∃ V, v' = .agg (calC (wkOf u) V).toArray ∧ sliceRd tyI (fun b => w.heap.size ≤ b) w' V (madeD near l) := by
  obtain ⟨A, c, rfl, hlc, hmx, hA⟩ := id hls
  refine enter (vs := [.int .u8 u, .int .i64 near, .slice A l.length c]) Tryd.func22 rfl Tryd.ntmps22 rfl ?_
  refine w_seq ?_
  refine rg_text ?_
  refine x_alloc rfl rfl rfl zr38 ?_
  intro p6
  refine x_end ?_
  refine t_norm ?_
  refine w_seq ?_
  refine rg_text ?_
  refine x_alloc rfl rfl rfl zr38 ?_
  intro p7
  refine x_end ?_
  refine t_norm ?_
  refine w_seq ?_
  refine w_seq ?_
  refine rg_text ?_
  refine x_val rfl rfl rfl (v_assign rfl) ?_
  refine x_end ?_
  refine t_norm ?_
  refine w_block ?_
  refine w_loop (σ := Nat) (fun k => k ≤ 7) (fun k => [(0, Value.int .u8 u), (1, Value.int .i64 near), (2, .slice A l.length c), (6, .pointer (some ⟨p6, 0, none⟩)), (7, .pointer (some ⟨p7, 0, none⟩)), (8, Value.int .i64 (k : Nat))]) (fun k => [(p7, Obj.cells (calC (wkP u k) (.slice none 0 0)).toArray 38), (p6, Obj.cells #[.bool false, .bool false, .bool false, .bool false, .bool false, .bool false, .bool false, .slice none 0 0] 38)]) (fun k => [(w, fun _ => True)]) (fun k => 7 - k) (0) (Nat.zero_le _) (l_start (by repeat (first | exact Sub.nil | refine Sub.cons rfl ?_)) (fun _ h => h)) ?_
  rintro k hk
  refine w_state ([(0, Value.int .u8 u), (1, Value.int .i64 near), (2, .slice A l.length c), (6, .pointer (some ⟨p6, 0, none⟩)), (7, .pointer (some ⟨p7, 0, none⟩)), (8, Value.int .i64 (k : Nat))]) ([(p7, Obj.cells (calC (wkP u k) (.slice none 0 0)).toArray 38), (p6, Obj.cells #[.bool false, .bool false, .bool false, .bool false, .bool false, .bool false, .bool false, .slice none 0 0] 38)]) ([(w, fun _ => True)]) ?_
  refine w_seq ?_
  refine w_seq ?_
  refine rg_text ?_
  refine x_val rfl rfl rfl (v_move rfl) ?_
  refine x_bool rfl rfl rfl (v_lss rfl rfl) ?_
  intro b12 hb12
  refine x_end ?_
  refine t_norm ?_
  refine w_cond rfl (fun hc12 => ?_) (fun hc12 => ?_)
  · simp only [hb12, decide_eq_true_eq, decide_eq_false_iff_not, Bool.and_eq_true, Bool.or_eq_true, Bool.and_eq_false_iff, Bool.or_eq_false_iff, Bool.not_eq_true', Bool.not_eq_false', ne_eq, Decidable.not_not] at hc12
    refine w_skip ?_
    refine t_norm ?_
    refine w_seq ?_
    refine w_block ?_
    refine rg_text ?_
    refine x_val rfl rfl rfl (v_move rfl) ?_
    refine x_val rfl rfl rfl (v_move rfl) ?_
    refine x_val rfl rfl rfl (v_move rfl) ?_
    refine x_val rfl rfl rfl (v_shr (c := u / 2 ^ k) rfl rfl (by omega) (by rw [Int.toNat_natCast, show min k IntKind.u8.bits = k from Nat.min_eq_left (show k ≤ 8 by omega)])) ?_
    refine x_val rfl rfl rfl (v_andK rfl rfl) ?_
    refine x_bool rfl rfl rfl (v_eql rfl rfl) ?_
    intro b20 hb20
    refine x_val rfl rfl rfl (v_fieldAddr (off' := 0) Tryd.underlying38 rfl sz36 (by decide) rfl rfl) ?_
    refine x_val rfl rfl rfl (v_indexArr (j := k) (off' := k) Tryd.underlying36 sz4 rfl rfl (by omega) (by omega)) ?_
    refine x_store [] rfl rfl rfl rfl sz4 rfl (by rw [calC_len, wkP_len]; omega) ?_
    refine x_end ?_
    refine b_norm ?_
    refine t_norm ?_
    refine rg_text ?_
    refine x_val rfl rfl rfl (v_move rfl) ?_
    refine x_val rfl rfl rfl (v_addi rfl rfl rfl (by first | omega | (dsimp only; omega))) ?_
    refine x_val rfl rfl rfl (v_assign rfl) ?_
    refine x_end ?_
    rw [show b20 = bitU u k from hb20, calC_set (by rw [wkP_len]; omega), wkP_set (by omega)]
    exact l_norm (k + 1) (show k + 1 ≤ 7 by omega) (by omega) (by repeat (first | exact Sub.nil | refine Sub.cons rfl ?_)) (fun _ h => h)
  · simp only [hb12, decide_eq_true_eq, decide_eq_false_iff_not, Bool.and_eq_true, Bool.or_eq_true, Bool.and_eq_false_iff, Bool.or_eq_false_iff, Bool.not_eq_true', Bool.not_eq_false', ne_eq, Decidable.not_not] at hc12
    obtain rfl : k = 7 := by omega
    refine w_exit ?_
    refine t_exit ?_
    refine t_exit ?_
    refine b_hit ?_
    refine t_norm ?_
    refine w_seq ?_
    refine rg_text ?_
    refine x_val rfl rfl rfl (v_move rfl) ?_
    refine x_val rfl rfl rfl (v_rem rfl rfl (by first | omega | (dsimp only; omega))) ?_
    refine x_val rfl rfl rfl (v_assign rfl) ?_
    refine x_end ?_
    refine t_norm ?_
    refine w_seq ?_
    refine w_seq ?_
    refine rg_text ?_
    refine x_val rfl rfl rfl (v_assign rfl) ?_
    refine x_end ?_
    refine t_norm ?_
    refine w_block ?_
    refine w_loop (σ := RowS × Nat) (fun x => x.2 ≤ 20 ∧ x.2 ≤ l.length ∧ rowOK 1 x.1 x.2 ((madeD near (l.take x.2)).map (Value.int .i64))) (fun x => [(2, .slice A l.length c), (6, .pointer (some ⟨p6, 0, none⟩)), (7, .pointer (some ⟨p7, 0, none⟩)), (9, Value.int .i64 (near.tmod 3000000)), (10, Value.int .i64 (x.2 : Nat))]) (fun x => (p7, Obj.cells (calC (wkOf u) (rowV x.1 x.2)).toArray 38) :: (rowO 3 x.1 ++ [(p6, Obj.cells #[.bool false, .bool false, .bool false, .bool false, .bool false, .bool false, .bool false, .slice none 0 0] 38)])) (fun x => [(w, fun _ => True)]) (fun x => 20 - x.2) ((none, 0)) (⟨by decide, Nat.zero_le _, rowOK_nil⟩) (l_start (by repeat (first | exact Sub.nil | refine Sub.cons rfl ?_)) (fun _ h => h)) ?_
    rintro ⟨r, k⟩ ⟨hk, hkl, hr⟩
    refine w_state ([(2, .slice A l.length c), (6, .pointer (some ⟨p6, 0, none⟩)), (7, .pointer (some ⟨p7, 0, none⟩)), (9, Value.int .i64 (near.tmod 3000000)), (10, Value.int .i64 (k : Nat))]) ((p7, Obj.cells (calC (wkOf u) (rowV r k)).toArray 38) :: (rowO 3 r ++ [(p6, Obj.cells #[.bool false, .bool false, .bool false, .bool false, .bool false, .bool false, .bool false, .slice none 0 0] 38)])) ([(w, fun _ => True)]) ?_
    dsimp only at hk hkl hr
    refine w_seq ?_
    refine w_seq ?_
    refine rg_text ?_
    refine x_val rfl rfl rfl (v_move rfl) ?_
    refine x_val rfl rfl rfl (v_move rfl) ?_
    refine x_val rfl rfl rfl (v_len_slice Tryd.underlying35 rfl) ?_
    refine x_bool rfl rfl rfl (v_lss rfl rfl) ?_
    intro b28 hb28
    refine x_val rfl rfl rfl (v_move rfl) ?_
    refine x_if [] rfl rfl rfl rfl rfl (fun hg => by obtain ⟨hg0, _⟩ := hg; subst hg0; (try simp only [List.cons_append, List.nil_append, gvl_nil, gvl_t, gvl_f]); exact v_move rfl) ?_
    refine x_ifb [] rfl rfl rfl rfl rfl (fun hg => by obtain ⟨hg0, _⟩ := hg; subst hg0; (try simp only [List.cons_append, List.nil_append, gvl_nil, gvl_t, gvl_f]); exact v_lss rfl rfl) ?_
    intro b31 hb31
    refine x_bool rfl rfl rfl (v_and rfl rfl) ?_
    intro b32 hb32
    refine x_end ?_
    refine t_norm ?_
    refine w_cond rfl (fun hc32 => ?_) (fun hc32 => ?_)
    · simp only [hb32, hb31, hb28, decide_eq_true_eq, decide_eq_false_iff_not, Bool.and_eq_true, Bool.or_eq_true, Bool.and_eq_false_iff, Bool.or_eq_false_iff, Bool.not_eq_true', Bool.not_eq_false', ne_eq, Decidable.not_not] at hc32
      have hkl2 : k < l.length := by omega
      obtain ⟨b0, o0, hA0, hD0, hc0, hx1, hx2⟩ := k_at hls hkl2
      obtain ⟨hx1, hx2⟩ := u8_rng ⟨hx1, hx2⟩
      have e43 : IntKind.i64.wrap (l[k].tmod 60) = l[k] % 60 := by rw [Int.tmod_eq_emod_of_nonneg hx1, IntKind.wrap_i64]; omega
      have hnr := tmod_bd near 3000000 (by decide)
      refine w_skip ?_
      refine t_norm ?_
      refine w_seq ?_
      refine w_block ?_
      refine rg_draw 12 [(true, 0), (true, 1), (true, 2), (true, 3), (true, 4), (true, 5), (true, 6), (true, 7), (true, 8), (true, 9), (true, 10), (false, 11)] (by kernel_rfl) (by kernel_rfl) ?_
      refine x_val rfl rfl rfl (v_fieldAddr (off' := 7) Tryd.underlying38 rfl sz26 (by decide) rfl rfl) ?_
      refine x_val rfl rfl rfl (v_load Tryd.underlying26 rfl rfl (at_ownL (vs := calC (wkOf u) (rowV r k)) (.head _) (calC_v (wkOf_len u)))) ?_
      refine x_val rfl rfl rfl (v_move rfl) ?_
      refine x_val rfl rfl rfl (v_move rfl) ?_
      refine x_val rfl rfl rfl (v_move rfl) ?_
      refine x_val rfl rfl rfl (v_indexAddr Tryd.underlying35 sz5 (congrArg (fun A => some (Value.slice A l.length c)) hA0) rfl (by first | omega | (dsimp only; omega)) rfl) ?_
      refine x_val rfl rfl rfl (v_load Tryd.underlying5 rfl rfl (at_ro (.head _) trivial (by rw [Nat.mul_one]; exact hc0))) ?_
      refine x_val rfl rfl rfl (v_rem rfl rfl (by decide)) ?_
      refine x_val (v := Value.int .i64 (l[k] % 60)) rfl rfl rfl (by rw [← e43]; exact v_conv Tryd.underlying5 Tryd.underlying3 rfl) ?_
      refine x_val rfl rfl rfl (v_addi rfl rfl rfl (by first | omega | (dsimp only; omega))) ?_
      refine x_val rfl rfl rfl (v_subi rfl rfl rfl (by first | omega | (dsimp only; omega))) ?_
      refine x_buildSliceL rfl rfl rfl Tryd.underlying26 sz3 zr3 rfl rfl rfl ?_
      intro p46
      refine x_append (e := 3) [(p46, _), (p7, _)] (l2 := [(p6, Obj.cells #[.bool false, .bool false, .bool false, .bool false, .bool false, .bool false, .bool false, .slice none 0 0] 38)]) r (len := k) (xs := (madeD near (l.take k)).map (Value.int .i64)) rfl rfl rfl rfl rfl hr Tryd.underlying26 ap3 rfl rfl (m := 1) (news := [Value.int .i64 (near.tmod 3000000 + l[k] % 60 - 10)]) (fun i hi => at_ownL (vs := [Value.int .i64 (near.tmod 3000000 + l[k] % 60 - 10)]) (.head _) (by rw [Nat.zero_add]; exact List.getElem?_eq_getElem hi)) rfl (by simp only [maxLen]; omega) (by omega) ?_
      intro r' hr'
      refine x_val rfl rfl rfl (v_fieldAddr (off' := 7) Tryd.underlying38 rfl sz26 (by decide) rfl rfl) ?_
      refine x_store [(p46, _)] rfl rfl rfl rfl sz26 rfl (by rw [calC_len]; exact Nat.le_of_eq (by rw [wkOf_len])) ?_
      refine x_end ?_
      refine b_norm ?_
      refine t_norm ?_
      refine rg_text ?_
      refine x_val rfl rfl rfl (v_move rfl) ?_
      refine x_val rfl rfl rfl (v_addi rfl rfl rfl (by first | omega | (dsimp only; omega))) ?_
      refine x_val rfl rfl rfl (v_assign rfl) ?_
      refine x_end ?_
      rw [calC_put (wkOf_len u)]
      exact l_norm (r', k + 1) ⟨show k + 1 ≤ 20 by omega, hkl2, by dsimp only; rw [madeD_snoc hkl2 (by omega), List.map_append]; exact hr'⟩ (by simp only; omega) (by repeat (first | exact Sub.nil | refine Sub.cons rfl ?_)) (fun _ h => h.less (List.sublist_cons_self _ _) (fun _ h => h))
    · simp only [hb32, hb31, hb28, decide_eq_true_eq, decide_eq_false_iff_not, Bool.and_eq_true, Bool.or_eq_true, Bool.and_eq_false_iff, Bool.or_eq_false_iff, Bool.not_eq_true', Bool.not_eq_false', ne_eq, Decidable.not_not] at hc32
      have hall : k = l.length ∨ k = 20 := by omega
      rw [madeD_all hall] at hr
      refine w_exit ?_
      refine t_exit ?_
      refine t_exit ?_
      refine b_hit ?_
      refine t_norm ?_
      refine w_seq ?_
      refine rg_text ?_
      refine x_val rfl rfl rfl (v_load_blk (e := 38) (fz := (0, 0)) (cs := (calC (wkOf u) (rowV r k)).toArray) Tryd.underlying38 rfl rfl (.head _) (by rw [calC_size (wkOf_len u)]; exact sz38)) ?_
      refine x_store0 ((p7, _) :: rowO 3 r) rfl rfl rfl rfl sz38 rfl rfl ?_
      refine x_end ?_
      refine t_norm ?_
      refine w_ret ?_
      refine retc rfl rfl (List.mem_append_right ((p7, Obj.cells (calC (wkOf u) (rowV r k)).toArray 38) :: rowO 3 r) (.head _)) Tryd.underlying38 rfl (by rw [show (Value.agg (calC (wkOf u) (rowV r k)).toArray).cells.size = 8 from calC_size (wkOf_len u)]; exact sz38) (fun w' hm => ⟨_, rfl, hm.base (by simp), rowV r k, rfl, ?_⟩)
      have hlen : k = (madeD near l).length := by have := hr.1; simpa using this.symm
      exact rowI_rd hr hlen (fun d hd => by have := madeD_in near l d hd; unfold in64; omega) hm (fun p hp => List.mem_append_left _ (List.mem_cons_of_mem _ hp)) (fun p hp => hm.newer (by simp) (List.mem_append_left _ (List.mem_cons_of_mem _ hp)))

end Go.Proofs.YtffdbbcmibamjaaDoor

namespace Go.Proofs.YtffdbbcmibamjaaDoor
open Go.RowKit Go.PK
set_option linter.unusedVariables false
set_option linter.unusedSimpArgs false

theorem seven {wk : List Bool} (h : wk.length = 7) : ∃ a0 a1 a2 a3 a4 a5 a6, wk = [a0, a1, a2, a3, a4, a5, a6] := by
  match wk, h with
  | [a0, a1, a2, a3, a4, a5, a6], _ => exact ⟨a0, a1, a2, a3, a4, a5, a6, rfl⟩
set_option maxRecDepth 100000 in
theorem c28 {v : Value} {ds : List Int} {D : Nat → Prop} {wk : List Bool} (w : World) (hds : sliceRd tyI D w v ds) (hwk : wk.length = 7) (hl : ds.length ≤ 20) :
    Calls Tryd.prog 28 #[.agg (calC wk v).toArray] w fun e w' => ∃ v', e = .returned v' ∧ Later w w' ∧ ∃ V, v' = .agg (calC wk V).toArray ∧ sliceRd tyI (fun b => w.heap.size ≤ b) w' V (srtD ds) := by
  obtain ⟨A, c, rfl, hlc, hmx, hA⟩ := id hds
  obtain ⟨a0, a1, a2, a3, a4, a5, a6, rfl⟩ := seven hwk
  refine enter (vs := [.agg (calC [a0, a1, a2, a3, a4, a5, a6] (.slice A ds.length c)).toArray]) Tryd.func28 rfl Tryd.ntmps28 rfl ?_
  refine w_seq ?_
  refine rg_text ?_
  refine x_box rfl rfl rfl rfl ?_
  intro p1
  refine x_alloc rfl rfl rfl zr38 ?_
  intro p2
  refine x_end ?_
  refine t_norm ?_
  refine w_seq ?_
  refine rg_text ?_
  refine x_val rfl rfl rfl (v_fieldAddr (off' := 0) Tryd.underlying38 rfl sz36 (by decide) rfl rfl) ?_
  refine x_val rfl rfl rfl (v_loadN (vs := [a0, a1, a2, a3, a4, a5, a6].map Value.bool) Tryd.underlying36 rfl sz36 rfl (fun j hj => at_ownL (vs := calC [a0, a1, a2, a3, a4, a5, a6] (.slice A ds.length c)) (.tail _ (.head _)) (by unfold calC; rw [Nat.zero_add, List.getElem?_append_left hj]; exact List.getElem?_eq_getElem hj))) ?_
  refine x_val rfl rfl rfl (v_buildL (places := [(0, 7), (7, 1)]) Tryd.underlying38 zr38 (by kernel_rfl) rfl rfl) ?_
  refine x_alloc rfl rfl rfl zr38 ?_
  intro p3
  refine x_store0 [] rfl rfl rfl rfl sz38 rfl rfl ?_
  refine x_end ?_
  refine t_norm ?_
  refine w_seq ?_
  refine w_seq ?_
  refine rg_text ?_
  refine x_val rfl rfl rfl (v_assign rfl) ?_
  refine x_end ?_
  refine t_norm ?_
  refine w_block ?_
  refine w_loop (σ := RowS × Nat) (fun x => x.2 ≤ ds.length ∧ rowOK 1 x.1 (srtD (ds.take x.2)).length ((srtD (ds.take x.2)).map (Value.int .i64))) (fun x => [(1, .pointer (some ⟨p1, 0, none⟩)), (2, .pointer (some ⟨p2, 0, none⟩)), (3, .pointer (some ⟨p3, 0, none⟩)), (4, Value.int .i64 (x.2 : Nat))]) (fun x => (p3, Obj.cells (calC [a0, a1, a2, a3, a4, a5, a6] (rowV x.1 (srtD (ds.take x.2)).length)).toArray 38) :: (p2, Obj.cells #[.bool false, .bool false, .bool false, .bool false, .bool false, .bool false, .bool false, .slice none 0 0] 38) :: (p1, Obj.cells (calC [a0, a1, a2, a3, a4, a5, a6] (.slice A ds.length c)).toArray 38) :: rowO 3 x.1) (fun x => [(w, fun _ => True)]) (fun x => ds.length - x.2) ((none, 0)) (⟨Nat.zero_le _, rowOK_nil⟩) (l_start (by repeat (first | exact Sub.nil | refine Sub.cons rfl ?_)) (fun _ h => h)) ?_
  rintro ⟨R, k⟩ ⟨hk, hR⟩
  refine w_state ([(1, .pointer (some ⟨p1, 0, none⟩)), (2, .pointer (some ⟨p2, 0, none⟩)), (3, .pointer (some ⟨p3, 0, none⟩)), (4, Value.int .i64 (k : Nat))]) ((p3, Obj.cells (calC [a0, a1, a2, a3, a4, a5, a6] (rowV R (srtD (ds.take k)).length)).toArray 38) :: (p2, Obj.cells #[.bool false, .bool false, .bool false, .bool false, .bool false, .bool false, .bool false, .slice none 0 0] 38) :: (p1, Obj.cells (calC [a0, a1, a2, a3, a4, a5, a6] (.slice A ds.length c)).toArray 38) :: rowO 3 R) ([(w, fun _ => True)]) ?_
  dsimp only at hk hR
  generalize hzs : srtD (ds.take k) = zs at hR ⊢
  have hzl : zs.length ≤ k := by have := srtD_len (ds.take k); rw [hzs, List.length_take] at this; omega
  refine w_seq ?_
  refine w_seq ?_
  refine rg_text ?_
  refine x_val rfl rfl rfl (v_move rfl) ?_
  refine x_val rfl rfl rfl (v_fieldAddr (off' := 7) Tryd.underlying38 rfl sz26 (by decide) rfl rfl) ?_
  refine x_val rfl rfl rfl (v_load Tryd.underlying26 rfl rfl (at_ownL (vs := calC [a0, a1, a2, a3, a4, a5, a6] (.slice A ds.length c)) (.tail _ (.tail _ (.head _))) (calC_v rfl))) ?_
  refine x_val rfl rfl rfl (v_len_slice Tryd.underlying26 rfl) ?_
  refine x_bool rfl rfl rfl (v_lss rfl rfl) ?_
  intro b17 hb17
  refine x_end ?_
  refine t_norm ?_
  refine w_cond rfl (fun hc17 => ?_) (fun hc17 => ?_)
  · simp only [hb17, decide_eq_true_eq, decide_eq_false_iff_not, Bool.and_eq_true, Bool.or_eq_true, Bool.and_eq_false_iff, Bool.or_eq_false_iff, Bool.not_eq_true', Bool.not_eq_false', ne_eq, Decidable.not_not] at hc17
    have hkl : k < ds.length := by omega
    obtain ⟨b1, o1, hA1, hD1, hc1, hin⟩ := int_at hds hkl
    have hsk := srtD_take hkl
    rw [hzs] at hsk
    refine w_skip ?_
    refine t_norm ?_
    refine w_seq ?_
    refine w_block ?_
    refine w_seq ?_
    refine rg_text ?_
    refine x_val rfl rfl rfl (v_fieldAddr (off' := 7) Tryd.underlying38 rfl sz26 (by decide) rfl rfl) ?_
    refine x_val rfl rfl rfl (v_load Tryd.underlying26 rfl rfl (at_ownL (vs := calC [a0, a1, a2, a3, a4, a5, a6] (.slice A ds.length c)) (.tail _ (.tail _ (.head _))) (calC_v rfl))) ?_
    refine x_val rfl rfl rfl (v_move rfl) ?_
    refine x_val rfl rfl rfl (v_indexAddr Tryd.underlying26 sz3 (congrArg (fun A => some (Value.slice A ds.length c)) hA1) rfl (by first | omega | (dsimp only; omega)) rfl) ?_
    refine x_val rfl rfl rfl (v_load Tryd.underlying3 rfl rfl (at_ro (.head _) trivial (by rw [Nat.mul_one]; exact hc1))) ?_
    refine x_val rfl rfl rfl (v_assign rfl) ?_
    refine x_end ?_
    refine t_norm ?_
    refine w_seq ?_
    refine rg_text ?_
    refine x_val rfl rfl rfl (v_move rfl) ?_
    refine x_callb rfl rfl rfl Tryd.func39 (by kernel_rfl) rfl (fun w1 hw1 => c39 _ w1) ?_
    intro b26 hb26
    refine x_val rfl rfl rfl (v_assign rfl) ?_
    refine x_end ?_
    refine t_norm ?_
    refine w_seq ?_
    refine w_seq ?_
    refine rg_text ?_
    refine x_val rfl rfl rfl (v_move rfl) ?_
    refine x_bool rfl rfl rfl (v_not rfl) ?_
    intro b28 hb28
    refine x_end ?_
    refine t_norm ?_
    refine w_cond rfl (fun hc28 => ?_) (fun hc28 => ?_)
    · simp only [hb28, hb26, decide_eq_true_eq, decide_eq_false_iff_not, Bool.and_eq_true, Bool.or_eq_true, Bool.and_eq_false_iff, Bool.or_eq_false_iff, Bool.not_eq_true', Bool.not_eq_false', ne_eq, Decidable.not_not] at hc28
      have hno : ¬okDay ds[k] := by simpa using hc28
      rw [if_neg hno] at hsk
      refine w_exit ?_
      refine t_exit ?_
      refine b_hit ?_
      refine t_norm ?_
      refine rg_text ?_
      refine x_val rfl rfl rfl (v_move rfl) ?_
      refine x_val rfl rfl rfl (v_addi rfl rfl rfl (by first | omega | (dsimp only; omega))) ?_
      refine x_val rfl rfl rfl (v_assign rfl) ?_
      refine x_end ?_
      exact l_norm (R, k + 1) ⟨hkl, by dsimp only; rw [hsk]; exact hR⟩ (by simp only; omega) (by repeat (first | exact Sub.nil | refine Sub.cons rfl ?_)) (by dsimp only; rw [hsk]; exact fun _ h => h)
    · simp only [hb28, hb26, decide_eq_true_eq, decide_eq_false_iff_not, Bool.and_eq_true, Bool.or_eq_true, Bool.and_eq_false_iff, Bool.or_eq_false_iff, Bool.not_eq_true', Bool.not_eq_false', ne_eq, Decidable.not_not] at hc28
      have hno : okDay ds[k] := by simpa using hc28
      rw [if_pos hno] at hsk
      refine w_skip ?_
      refine t_norm ?_
      refine w_seq ?_
      refine rg_text ?_
      refine x_val rfl rfl rfl (v_assign rfl) ?_
      refine x_end ?_
      refine t_norm ?_
      refine w_seq ?_
      refine rg_text ?_
      refine x_val rfl rfl rfl (v_assign rfl) ?_
      refine x_end ?_
      refine t_norm ?_
      refine w_seq ?_
      refine w_seq ?_
      refine rg_text ?_
      refine x_val rfl rfl rfl (v_assign rfl) ?_
      refine x_end ?_
      refine t_norm ?_
      refine w_block ?_
      refine w_loop (σ := RowS × Nat) (fun x => x.2 ≤ zs.length ∧ rowOK 1 x.1 (stp ds[k] (zs.take x.2)).1.length ((stp ds[k] (zs.take x.2)).1.map (Value.int .i64))) (fun x => [(1, .pointer (some ⟨p1, 0, none⟩)), (2, .pointer (some ⟨p2, 0, none⟩)), (3, .pointer (some ⟨p3, 0, none⟩)), (4, Value.int .i64 (k : Nat)), (5, Value.int .i64 ds[k]), (7, rowV x.1 (stp ds[k] (zs.take x.2)).1.length), (8, Value.bool (stp ds[k] (zs.take x.2)).2), (9, Value.int .i64 (x.2 : Nat))]) (fun x => (p3, Obj.cells (calC [a0, a1, a2, a3, a4, a5, a6] (rowV R zs.length)).toArray 38) :: (p2, Obj.cells #[.bool false, .bool false, .bool false, .bool false, .bool false, .bool false, .bool false, .slice none 0 0] 38) :: (p1, Obj.cells (calC [a0, a1, a2, a3, a4, a5, a6] (.slice A ds.length c)).toArray 38) :: (rowO 3 x.1 ++ rowO 3 R)) (fun x => [(w, fun _ => True)]) (fun x => zs.length - x.2) ((none, 0)) (⟨Nat.zero_le _, rowOK_nil⟩) (l_start (by repeat (first | exact Sub.nil | refine Sub.cons rfl ?_)) (fun _ h => h)) ?_
      rintro ⟨S, j⟩ ⟨hj, hS⟩
      refine w_state ([(1, .pointer (some ⟨p1, 0, none⟩)), (2, .pointer (some ⟨p2, 0, none⟩)), (3, .pointer (some ⟨p3, 0, none⟩)), (4, Value.int .i64 (k : Nat)), (5, Value.int .i64 ds[k]), (7, rowV S (stp ds[k] (zs.take j)).1.length), (8, Value.bool (stp ds[k] (zs.take j)).2), (9, Value.int .i64 (j : Nat))]) ((p3, Obj.cells (calC [a0, a1, a2, a3, a4, a5, a6] (rowV R zs.length)).toArray 38) :: (p2, Obj.cells #[.bool false, .bool false, .bool false, .bool false, .bool false, .bool false, .bool false, .slice none 0 0] 38) :: (p1, Obj.cells (calC [a0, a1, a2, a3, a4, a5, a6] (.slice A ds.length c)).toArray 38) :: (rowO 3 S ++ rowO 3 R)) ([(w, fun _ => True)]) ?_
      dsimp only at hj hS
      have hsl := stp_len ds[k] (zs.take j)
      obtain ⟨out, hout⟩ : ∃ o, o = (stp ds[k] (zs.take j)).1 := ⟨_, rfl⟩
      obtain ⟨dn, hdn⟩ : ∃ o, o = (stp ds[k] (zs.take j)).2 := ⟨_, rfl⟩
      have hst : stp ds[k] (zs.take j) = (out, dn) := by rw [hout, hdn]
      rw [← hout] at hS hsl ⊢
      rw [← hdn] at hsl ⊢
      have hol : out.length ≤ 21 := by rw [List.length_take] at hsl; omega
      refine w_seq ?_
      refine w_seq ?_
      refine rg_text ?_
      refine x_val rfl rfl rfl (v_move rfl) ?_
      refine x_val rfl rfl rfl (v_fieldAddr (off' := 7) Tryd.underlying38 rfl sz26 (by decide) rfl rfl) ?_
      refine x_val rfl rfl rfl (v_load Tryd.underlying26 rfl rfl (at_ownL (vs := calC [a0, a1, a2, a3, a4, a5, a6] (rowV R zs.length)) (.head _) (calC_v rfl))) ?_
      refine x_val rfl rfl rfl (v_len_slice Tryd.underlying26 rfl) ?_
      refine x_bool rfl rfl rfl (v_lss rfl rfl) ?_
      intro b33 hb33
      refine x_end ?_
      refine t_norm ?_
      refine w_cond rfl (fun hc33 => ?_) (fun hc33 => ?_)
      · simp only [hb33, decide_eq_true_eq, decide_eq_false_iff_not, Bool.and_eq_true, Bool.or_eq_true, Bool.and_eq_false_iff, Bool.or_eq_false_iff, Bool.not_eq_true', Bool.not_eq_false', ne_eq, Decidable.not_not] at hc33
        have hjl : j < zs.length := by omega
        obtain ⟨b0, cs0, c0, e0, hcs0⟩ := hR.cell (j := j) (by simpa using hjl)
        have hA0 : rowA R = some ⟨b0, 0, none⟩ := by rw [e0]; rfl
        refine w_skip ?_
        refine t_norm ?_
        refine w_seq ?_
        refine w_block ?_
        refine w_seq ?_
        refine w_seq ?_
        refine rg_text ?_
        refine x_val rfl rfl rfl (v_fieldAddr (off' := 7) Tryd.underlying38 rfl sz26 (by decide) rfl rfl) ?_
        refine x_val rfl rfl rfl (v_load Tryd.underlying26 rfl rfl (at_ownL (vs := calC [a0, a1, a2, a3, a4, a5, a6] (rowV R zs.length)) (.head _) (calC_v rfl))) ?_
        refine x_val rfl rfl rfl (v_move rfl) ?_
        refine x_val rfl rfl rfl (v_indexAddr Tryd.underlying26 sz3 (congrArg (fun A => some (Value.slice A zs.length (rowC R))) hA0) rfl (by first | omega | (dsimp only; omega)) rfl) ?_
        refine x_val rfl rfl rfl (v_load Tryd.underlying3 rfl rfl (at_ownL (vs := cs0) (b := b0) (by rw [e0]; exact List.mem_cons_of_mem _ (List.mem_cons_of_mem _ (List.mem_cons_of_mem _ (List.mem_append_right _ (.head _))))) (show cs0[0 + j * 1]? = some (Value.int .i64 zs[j]) from by rw [Nat.mul_one, Nat.zero_add, hcs0, List.getElem_map]))) ?_
        refine x_val rfl rfl rfl (v_move rfl) ?_
        refine x_bool rfl rfl rfl (v_geq rfl rfl) ?_
        intro b42 hb42
        refine x_val rfl rfl rfl (v_move rfl) ?_
        refine x_if [] rfl rfl rfl rfl rfl (fun hg => by obtain ⟨hg0, _⟩ := hg; subst hg0; (try simp only [List.cons_append, List.nil_append, gvl_nil, gvl_t, gvl_f]); exact v_move rfl) ?_
        refine x_ifb [] rfl rfl rfl rfl rfl (fun hg => by obtain ⟨hg0, _⟩ := hg; subst hg0; (try simp only [List.cons_append, List.nil_append, gvl_nil, gvl_t, gvl_f]); exact v_not rfl) ?_
        intro b45 hb45
        refine x_bool rfl rfl rfl (v_and rfl rfl) ?_
        intro b46 hb46
        refine x_end ?_
        refine t_norm ?_
        refine w_cond rfl (fun hc46 => ?_) (fun hc46 => ?_)
        · rw [hb46, hb45, hb42] at hc46
          have hdf : dn = false := by revert hc46; cases dn <;> simp
          have hge : zs[j] ≥ ds[k] := by revert hc46; rw [Bool.and_eq_true, decide_eq_true_eq]; exact fun h => h.1
          clear hout hdn
          subst hdf
          refine w_seq ?_
          refine rg_text ?_
          refine x_val rfl rfl rfl (v_move rfl) ?_
          refine x_val rfl rfl rfl (v_move rfl) ?_
          refine x_buildSliceL rfl rfl rfl Tryd.underlying26 sz3 zr3 rfl rfl rfl ?_
          intro p49
          refine x_append (e := 3) [(p49, _), (p3, _), (p2, _), (p1, _)] (l2 := rowO 3 R) S (len := out.length) (xs := (out).map (Value.int .i64)) rfl rfl rfl rfl rfl hS Tryd.underlying26 ap3 rfl rfl (m := 1) (news := [Value.int .i64 ds[k]]) (fun i hi => at_ownL (vs := [Value.int .i64 ds[k]]) (.head _) (by rw [Nat.zero_add]; exact List.getElem?_eq_getElem hi)) rfl (by simp only [maxLen]; omega) (by omega) ?_
          intro r50 hr50
          refine x_mem (own' := (p3, Obj.cells (calC [a0, a1, a2, a3, a4, a5, a6] (rowV R zs.length)).toArray 38) :: (p2, Obj.cells #[.bool false, .bool false, .bool false, .bool false, .bool false, .bool false, .bool false, .slice none 0 0] 38) :: (p1, Obj.cells (calC [a0, a1, a2, a3, a4, a5, a6] (.slice A ds.length c)).toArray 38) :: (rowO 3 r50 ++ rowO 3 R)) (fun w h => h.less (List.sublist_cons_self _ _) (fun _ h => h)) ?_
          refine x_val rfl rfl rfl (v_assign rfl) ?_
          refine x_end ?_
          refine t_norm ?_
          refine rg_text ?_
          refine x_val rfl rfl rfl (v_assign rfl) ?_
          refine x_end ?_
          refine t_norm ?_
          refine w_seq ?_
          refine rg_text ?_
          refine x_val rfl rfl rfl (v_fieldAddr (off' := 7) Tryd.underlying38 rfl sz26 (by decide) rfl rfl) ?_
          refine x_val rfl rfl rfl (v_load Tryd.underlying26 rfl rfl (at_ownL (vs := calC [a0, a1, a2, a3, a4, a5, a6] (rowV R zs.length)) (.head _) (calC_v rfl))) ?_
          refine x_val rfl rfl rfl (v_move rfl) ?_
          refine x_val rfl rfl rfl (v_indexAddr Tryd.underlying26 sz3 (congrArg (fun A => some (Value.slice A zs.length (rowC R))) hA0) rfl (by first | omega | (dsimp only; omega)) rfl) ?_
          refine x_val rfl rfl rfl (v_load Tryd.underlying3 rfl rfl (at_ownL (vs := cs0) (b := b0) (by rw [e0]; exact List.mem_cons_of_mem _ (List.mem_cons_of_mem _ (List.mem_cons_of_mem _ (List.mem_append_right _ (.head _))))) (show cs0[0 + j * 1]? = some (Value.int .i64 zs[j]) from by rw [Nat.mul_one, Nat.zero_add, hcs0, List.getElem_map]))) ?_
          refine x_val rfl rfl rfl (v_move rfl) ?_
          refine x_bool rfl rfl rfl (v_neq rfl rfl) ?_
          intro b57 hb57
          refine x_end ?_
          refine t_norm ?_
          refine w_cond rfl (fun hc57 => ?_) (fun hc57 => ?_)
          · simp only [hb57, decide_eq_true_eq, decide_eq_false_iff_not, Bool.and_eq_true, Bool.or_eq_true, Bool.and_eq_false_iff, Bool.or_eq_false_iff, Bool.not_eq_true', Bool.not_eq_false', ne_eq, Decidable.not_not] at hc57
            refine rg_text ?_
            refine x_val rfl rfl rfl (v_move rfl) ?_
            refine x_val rfl rfl rfl (v_fieldAddr (off' := 7) Tryd.underlying38 rfl sz26 (by decide) rfl rfl) ?_
            refine x_val rfl rfl rfl (v_load Tryd.underlying26 rfl rfl (at_ownL (vs := calC [a0, a1, a2, a3, a4, a5, a6] (rowV R zs.length)) (.head _) (calC_v rfl))) ?_
            refine x_val rfl rfl rfl (v_move rfl) ?_
            refine x_val rfl rfl rfl (v_indexAddr Tryd.underlying26 sz3 (congrArg (fun A => some (Value.slice A zs.length (rowC R))) hA0) rfl (by first | omega | (dsimp only; omega)) rfl) ?_
            refine x_val rfl rfl rfl (v_load Tryd.underlying3 rfl rfl (at_ownL (vs := cs0) (b := b0) (by rw [e0]; exact List.mem_cons_of_mem _ (List.mem_cons_of_mem _ (List.mem_cons_of_mem _ (List.mem_append_right _ (.head _))))) (show cs0[0 + j * 1]? = some (Value.int .i64 zs[j]) from by rw [Nat.mul_one, Nat.zero_add, hcs0, List.getElem_map]))) ?_
            refine x_buildSliceL rfl rfl rfl Tryd.underlying26 sz3 zr3 rfl rfl rfl ?_
            intro p64
            refine x_append (e := 3) [(p64, _), (p3, _), (p2, _), (p1, _)] (l2 := rowO 3 R) r50 (len := (out.length + 1)) (xs := (out ++ [ds[k]]).map (Value.int .i64)) rfl rfl rfl rfl rfl (by simpa using hr50) Tryd.underlying26 ap3 rfl rfl (m := 1) (news := [Value.int .i64 zs[j]]) (fun i hi => at_ownL (vs := [Value.int .i64 zs[j]]) (.head _) (by rw [Nat.zero_add]; exact List.getElem?_eq_getElem hi)) rfl (by simp only [maxLen]; omega) (by omega) ?_
            intro r65 hr65
            refine x_mem (own' := (p3, Obj.cells (calC [a0, a1, a2, a3, a4, a5, a6] (rowV R zs.length)).toArray 38) :: (p2, Obj.cells #[.bool false, .bool false, .bool false, .bool false, .bool false, .bool false, .bool false, .slice none 0 0] 38) :: (p1, Obj.cells (calC [a0, a1, a2, a3, a4, a5, a6] (.slice A ds.length c)).toArray 38) :: (rowO 3 r65 ++ rowO 3 R)) (fun w h => h.less (List.sublist_cons_self _ _) (fun _ h => h)) ?_
            refine x_val rfl rfl rfl (v_assign rfl) ?_
            refine x_end ?_
            refine b_norm ?_
            refine t_norm ?_
            refine rg_text ?_
            refine x_val rfl rfl rfl (v_move rfl) ?_
            refine x_val rfl rfl rfl (v_addi rfl rfl rfl (by first | omega | (dsimp only; omega))) ?_
            refine x_val rfl rfl rfl (v_assign rfl) ?_
            refine x_end ?_
            have e2 : stp ds[k] (zs.take (j + 1)) = (out ++ [ds[k]] ++ [zs[j]], true) := by rw [stp_take hjl, hst]; unfold stp1; rw [if_pos ⟨by omega, rfl⟩, if_neg (by omega)]
            exact l_norm (r65, j + 1) ⟨hjl, by dsimp only; rw [e2]; simpa using hr65⟩ (by simp only; omega) (by dsimp only; rw [e2]; simp only [List.length_append, List.length_singleton]; repeat (first | exact Sub.nil | refine Sub.cons rfl ?_)) (fun _ h => h)
          · simp only [hb57, decide_eq_true_eq, decide_eq_false_iff_not, Bool.and_eq_true, Bool.or_eq_true, Bool.and_eq_false_iff, Bool.or_eq_false_iff, Bool.not_eq_true', Bool.not_eq_false', ne_eq, Decidable.not_not] at hc57
            refine w_skip ?_
            refine b_norm ?_
            refine t_norm ?_
            refine rg_text ?_
            refine x_val rfl rfl rfl (v_move rfl) ?_
            refine x_val rfl rfl rfl (v_addi rfl rfl rfl (by first | omega | (dsimp only; omega))) ?_
            refine x_val rfl rfl rfl (v_assign rfl) ?_
            refine x_end ?_
            have e2 : stp ds[k] (zs.take (j + 1)) = (out ++ [ds[k]], true) := by rw [stp_take hjl, hst]; unfold stp1; rw [if_pos ⟨by omega, rfl⟩, if_pos (by omega)]
            exact l_norm (r50, j + 1) ⟨hjl, by dsimp only; rw [e2]; simpa using hr50⟩ (by simp only; omega) (by dsimp only; rw [e2]; simp only [List.length_append, List.length_singleton]; repeat (first | exact Sub.nil | refine Sub.cons rfl ?_)) (fun _ h => h)
        · have hcn : ¬(ds[k] ≤ zs[j] ∧ dn = false) := fun hc => by rw [hb46, hb45, hb42, hc.2, decide_eq_true (show zs[j] ≥ ds[k] from hc.1)] at hc46; exact absurd hc46 (by decide)
          refine w_skip ?_
          refine t_norm ?_
          refine w_seq ?_
          refine rg_text ?_
          refine x_val rfl rfl rfl (v_fieldAddr (off' := 7) Tryd.underlying38 rfl sz26 (by decide) rfl rfl) ?_
          refine x_val rfl rfl rfl (v_load Tryd.underlying26 rfl rfl (at_ownL (vs := calC [a0, a1, a2, a3, a4, a5, a6] (rowV R zs.length)) (.head _) (calC_v rfl))) ?_
          refine x_val rfl rfl rfl (v_move rfl) ?_
          refine x_val rfl rfl rfl (v_indexAddr Tryd.underlying26 sz3 (congrArg (fun A => some (Value.slice A zs.length (rowC R))) hA0) rfl (by first | omega | (dsimp only; omega)) rfl) ?_
          refine x_val rfl rfl rfl (v_load Tryd.underlying3 rfl rfl (at_ownL (vs := cs0) (b := b0) (by rw [e0]; exact List.mem_cons_of_mem _ (List.mem_cons_of_mem _ (List.mem_cons_of_mem _ (List.mem_append_right _ (.head _))))) (show cs0[0 + j * 1]? = some (Value.int .i64 zs[j]) from by rw [Nat.mul_one, Nat.zero_add, hcs0, List.getElem_map]))) ?_
          refine x_val rfl rfl rfl (v_move rfl) ?_
          refine x_bool rfl rfl rfl (v_neq rfl rfl) ?_
          intro b57 hb57
          refine x_end ?_
          refine t_norm ?_
          refine w_cond rfl (fun hc57 => ?_) (fun hc57 => ?_)
          · simp only [hb57, decide_eq_true_eq, decide_eq_false_iff_not, Bool.and_eq_true, Bool.or_eq_true, Bool.and_eq_false_iff, Bool.or_eq_false_iff, Bool.not_eq_true', Bool.not_eq_false', ne_eq, Decidable.not_not] at hc57
            refine rg_text ?_
            refine x_val rfl rfl rfl (v_move rfl) ?_
            refine x_val rfl rfl rfl (v_fieldAddr (off' := 7) Tryd.underlying38 rfl sz26 (by decide) rfl rfl) ?_
            refine x_val rfl rfl rfl (v_load Tryd.underlying26 rfl rfl (at_ownL (vs := calC [a0, a1, a2, a3, a4, a5, a6] (rowV R zs.length)) (.head _) (calC_v rfl))) ?_
            refine x_val rfl rfl rfl (v_move rfl) ?_
            refine x_val rfl rfl rfl (v_indexAddr Tryd.underlying26 sz3 (congrArg (fun A => some (Value.slice A zs.length (rowC R))) hA0) rfl (by first | omega | (dsimp only; omega)) rfl) ?_
            refine x_val rfl rfl rfl (v_load Tryd.underlying3 rfl rfl (at_ownL (vs := cs0) (b := b0) (by rw [e0]; exact List.mem_cons_of_mem _ (List.mem_cons_of_mem _ (List.mem_cons_of_mem _ (List.mem_append_right _ (.head _))))) (show cs0[0 + j * 1]? = some (Value.int .i64 zs[j]) from by rw [Nat.mul_one, Nat.zero_add, hcs0, List.getElem_map]))) ?_
            refine x_buildSliceL rfl rfl rfl Tryd.underlying26 sz3 zr3 rfl rfl rfl ?_
            intro p64
            refine x_append (e := 3) [(p64, _), (p3, _), (p2, _), (p1, _)] (l2 := rowO 3 R) S (len := out.length) (xs := (out).map (Value.int .i64)) rfl rfl rfl rfl rfl hS Tryd.underlying26 ap3 rfl rfl (m := 1) (news := [Value.int .i64 zs[j]]) (fun i hi => at_ownL (vs := [Value.int .i64 zs[j]]) (.head _) (by rw [Nat.zero_add]; exact List.getElem?_eq_getElem hi)) rfl (by simp only [maxLen]; omega) (by omega) ?_
            intro r65 hr65
            refine x_mem (own' := (p3, Obj.cells (calC [a0, a1, a2, a3, a4, a5, a6] (rowV R zs.length)).toArray 38) :: (p2, Obj.cells #[.bool false, .bool false, .bool false, .bool false, .bool false, .bool false, .bool false, .slice none 0 0] 38) :: (p1, Obj.cells (calC [a0, a1, a2, a3, a4, a5, a6] (.slice A ds.length c)).toArray 38) :: (rowO 3 r65 ++ rowO 3 R)) (fun w h => h.less (List.sublist_cons_self _ _) (fun _ h => h)) ?_
            refine x_val rfl rfl rfl (v_assign rfl) ?_
            refine x_end ?_
            refine b_norm ?_
            refine t_norm ?_
            refine rg_text ?_
            refine x_val rfl rfl rfl (v_move rfl) ?_
            refine x_val rfl rfl rfl (v_addi rfl rfl rfl (by first | omega | (dsimp only; omega))) ?_
            refine x_val rfl rfl rfl (v_assign rfl) ?_
            refine x_end ?_
            have e2 : stp ds[k] (zs.take (j + 1)) = (out ++ [zs[j]], dn) := by rw [stp_take hjl, hst]; unfold stp1; rw [if_neg hcn, if_neg (by omega)]
            exact l_norm (r65, j + 1) ⟨hjl, by dsimp only; rw [e2]; simpa using hr65⟩ (by simp only; omega) (by dsimp only; rw [e2]; simp only [List.length_append, List.length_singleton]; repeat (first | exact Sub.nil | refine Sub.cons rfl ?_)) (fun _ h => h)
          · simp only [hb57, decide_eq_true_eq, decide_eq_false_iff_not, Bool.and_eq_true, Bool.or_eq_true, Bool.and_eq_false_iff, Bool.or_eq_false_iff, Bool.not_eq_true', Bool.not_eq_false', ne_eq, Decidable.not_not] at hc57
            refine w_skip ?_
            refine b_norm ?_
            refine t_norm ?_
            refine rg_text ?_
            refine x_val rfl rfl rfl (v_move rfl) ?_
            refine x_val rfl rfl rfl (v_addi rfl rfl rfl (by first | omega | (dsimp only; omega))) ?_
            refine x_val rfl rfl rfl (v_assign rfl) ?_
            refine x_end ?_
            have e2 : stp ds[k] (zs.take (j + 1)) = (out, dn) := by rw [stp_take hjl, hst]; unfold stp1; rw [if_neg hcn, if_pos (by omega)]
            exact l_norm (S, j + 1) ⟨hjl, by dsimp only; rw [e2]; simpa using hS⟩ (by simp only; omega) (by dsimp only; rw [e2]; simp only [List.length_append, List.length_singleton]; repeat (first | exact Sub.nil | refine Sub.cons rfl ?_)) (fun _ h => h)
      · simp only [hb33, decide_eq_true_eq, decide_eq_false_iff_not, Bool.and_eq_true, Bool.or_eq_true, Bool.and_eq_false_iff, Bool.or_eq_false_iff, Bool.not_eq_true', Bool.not_eq_false', ne_eq, Decidable.not_not] at hc33
        obtain rfl : j = zs.length := by omega
        rw [List.take_length] at hst
        refine w_exit ?_
        refine t_exit ?_
        refine t_exit ?_
        refine b_hit ?_
        refine t_norm ?_
        refine w_seq ?_
        refine w_seq ?_
        refine rg_text ?_
        refine x_val rfl rfl rfl (v_move rfl) ?_
        refine x_bool rfl rfl rfl (v_not rfl) ?_
        intro b67 hb67
        refine x_end ?_
        refine t_norm ?_
        refine w_cond rfl (fun hc67 => ?_) (fun hc67 => ?_)
        · have hdf : dn = false := by rw [hb67] at hc67; simpa using hc67
          subst hdf
          have hins : insI ds[k] zs = out ++ [ds[k]] := by unfold insI; rw [hst]; rfl
          refine rg_text ?_
          refine x_val rfl rfl rfl (v_move rfl) ?_
          refine x_val rfl rfl rfl (v_move rfl) ?_
          refine x_buildSliceL rfl rfl rfl Tryd.underlying26 sz3 zr3 rfl rfl rfl ?_
          intro p70
          refine x_append (e := 3) [(p70, _), (p3, _), (p2, _), (p1, _)] (l2 := rowO 3 R) S (len := out.length) (xs := (out).map (Value.int .i64)) rfl rfl rfl rfl rfl hS Tryd.underlying26 ap3 rfl rfl (m := 1) (news := [Value.int .i64 ds[k]]) (fun i hi => at_ownL (vs := [Value.int .i64 ds[k]]) (.head _) (by rw [Nat.zero_add]; exact List.getElem?_eq_getElem hi)) rfl (by simp only [maxLen]; omega) (by omega) ?_
          intro r71 hr71
          refine x_mem (own' := (p3, Obj.cells (calC [a0, a1, a2, a3, a4, a5, a6] (rowV R zs.length)).toArray 38) :: (p2, Obj.cells #[.bool false, .bool false, .bool false, .bool false, .bool false, .bool false, .bool false, .slice none 0 0] 38) :: (p1, Obj.cells (calC [a0, a1, a2, a3, a4, a5, a6] (.slice A ds.length c)).toArray 38) :: (rowO 3 r71 ++ rowO 3 R)) (fun w h => h.less (List.sublist_cons_self _ _) (fun _ h => h)) ?_
          refine x_val rfl rfl rfl (v_assign rfl) ?_
          refine x_end ?_
          refine t_norm ?_
          refine rg_text ?_
          refine x_val rfl rfl rfl (v_move rfl) ?_
          refine x_val rfl rfl rfl (v_fieldAddr (off' := 7) Tryd.underlying38 rfl sz26 (by decide) rfl rfl) ?_
          refine x_store [] rfl rfl rfl rfl sz26 rfl (by rw [calC_len]; exact Nat.le_refl _) ?_
          refine x_end ?_
          refine b_norm ?_
          refine t_norm ?_
          refine rg_text ?_
          refine x_val rfl rfl rfl (v_move rfl) ?_
          refine x_val rfl rfl rfl (v_addi rfl rfl rfl (by first | omega | (dsimp only; omega))) ?_
          refine x_val rfl rfl rfl (v_assign rfl) ?_
          refine x_end ?_
          rw [calC_put rfl]
          exact l_norm (r71, k + 1) ⟨hkl, by dsimp only; rw [hsk, hins]; simpa using hr71⟩ (by simp only; omega) (by repeat (first | exact Sub.nil | refine Sub.cons rfl ?_)) (by dsimp only; rw [hsk, hins, List.length_append, List.length_singleton]; exact fun w h => h.less ((((List.sublist_append_left _ _).cons_cons _).cons_cons _).cons_cons _) (fun _ h => h))
        · have hdf : dn = true := by rw [hb67] at hc67; simpa using hc67
          subst hdf
          have hins : insI ds[k] zs = out := by unfold insI; rw [hst]; rfl
          refine w_skip ?_
          refine t_norm ?_
          refine rg_text ?_
          refine x_val rfl rfl rfl (v_move rfl) ?_
          refine x_val rfl rfl rfl (v_fieldAddr (off' := 7) Tryd.underlying38 rfl sz26 (by decide) rfl rfl) ?_
          refine x_store [] rfl rfl rfl rfl sz26 rfl (by rw [calC_len]; exact Nat.le_refl _) ?_
          refine x_end ?_
          refine b_norm ?_
          refine t_norm ?_
          refine rg_text ?_
          refine x_val rfl rfl rfl (v_move rfl) ?_
          refine x_val rfl rfl rfl (v_addi rfl rfl rfl (by first | omega | (dsimp only; omega))) ?_
          refine x_val rfl rfl rfl (v_assign rfl) ?_
          refine x_end ?_
          rw [calC_put rfl]
          exact l_norm (S, k + 1) ⟨hkl, by dsimp only; rw [hsk, hins]; exact hS⟩ (by simp only; omega) (by repeat (first | exact Sub.nil | refine Sub.cons rfl ?_)) (by dsimp only; rw [hsk, hins]; exact fun w h => h.less ((((List.sublist_append_left _ _).cons_cons _).cons_cons _).cons_cons _) (fun _ h => h))
  · simp only [hb17, decide_eq_true_eq, decide_eq_false_iff_not, Bool.and_eq_true, Bool.or_eq_true, Bool.and_eq_false_iff, Bool.or_eq_false_iff, Bool.not_eq_true', Bool.not_eq_false', ne_eq, Decidable.not_not] at hc17
    obtain rfl : k = ds.length := by omega
    rw [List.take_length] at hzs
    refine w_exit ?_
    refine t_exit ?_
    refine t_exit ?_
    refine b_hit ?_
    refine t_norm ?_
    refine w_seq ?_
    refine rg_text ?_
    refine x_val rfl rfl rfl (v_load_blk (e := 38) (fz := (0, 0)) (cs := (calC [a0, a1, a2, a3, a4, a5, a6] (rowV R zs.length)).toArray) Tryd.underlying38 rfl rfl (.head _) (by exact sz38)) ?_
    refine x_store0 [(p3, _)] rfl rfl rfl rfl sz38 rfl rfl ?_
    refine x_end ?_
    refine t_norm ?_
    refine w_ret ?_
    refine retc rfl rfl (.tail _ (.head _)) Tryd.underlying38 rfl sz38 (fun w' hm => ⟨_, rfl, hm.base (by simp), rowV R zs.length, rfl, ?_⟩)
    rw [← hzs] at hR hm ⊢
    exact rowI_rd hR rfl (srtD_in ds) hm (fun p hp => .tail _ (.tail _ (.tail _ hp))) (fun p hp => hm.newer (by simp) (.tail _ (.tail _ (.tail _ hp))))

end Go.Proofs.YtffdbbcmibamjaaDoor

namespace Go.Proofs.YtffdbbcmibamjaaDoor
open Go.RowKit Go.PK
set_option linter.unusedVariables false
set_option linter.unusedSimpArgs false

def laidL : List (String × DataW Unit) := [("math/bits.deBruijn32tab", Rows.laid_math_bits_deBruijn32tab), ("math/bits.deBruijn64tab", Rows.laid_math_bits_deBruijn64tab), ("internal/strconv.uint64pow10", Rows.laid_internal_strconv_uint64pow10), ("strconv.ErrRange", Rows.laid_strconv_ErrRange), ("strconv.ErrSyntax", Rows.laid_strconv_ErrSyntax)]
theorem noHandle {W : World} (h : laidMetH Tryd.prog laidL W) : laidMet Tryd.prog laidL W := by
  have h1 := (laidMetH_iff.1 h).1
  rwa [show (laidL.filter fun x => x.2.handleName?.isNone) = laidL from by kernel_rfl] at h1
theorem laid_tab {W : World} (h : laidMet Tryd.prog laidL W) : Lib.TabIs Tryd.prog W "internal/strconv.uint64pow10" .u64 Lib.pow10Tab := by
  have h1 := h.filter fun x => x.1 == "internal/strconv.uint64pow10"
  have e : (laidL.filter fun x => x.1 == "internal/strconv.uint64pow10") = [("internal/strconv.uint64pow10", Lib.tabData .u64 Lib.pow10Tab)] := by kernel_rfl
  rw [e] at h1
  exact Lib.tabIs_of_head (g := 2) (t := 111) (e := 83) (n := 20) (by kernel_rfl) (by kernel_rfl) (by kernel_rfl) (by kernel_rfl) (by kernel_rfl) (by kernel_rfl) h1
theorem star : "*" ++ "errors.errorString" = "*errors.errorString" := by decide
theorem row104 (u : TypeId) (h : Tryd.prog.typeName? 3 u = some "*errors.errorString") : u = 104 :=
  typeName_ptr_named (nm := "errors.errorString") (by rw [star]; kernel_rfl) (by kernel_rfl) (by decide) u (by rw [star]; exact h)
theorem laid_syn {W : World} (h : laidMet Tryd.prog laidL W) : ∃ tp p, W.var? Tryd.prog "strconv.ErrSyntax" = some #[.iface tp p] := by
  have h1 := h.filter fun x => x.1 == "strconv.ErrSyntax"
  have e : (laidL.filter fun x => x.1 == "strconv.ErrSyntax") = [("strconv.ErrSyntax", .iface "*errors.errorString" (.ptr (.agg [.lit (.string [105, 110, 118, 97, 108, 105, 100, 32, 115, 121, 110, 116, 97, 120])])))] := by kernel_rfl
  rw [e] at h1
  obtain ⟨a0, s0, hv0, _⟩ := laid_sentinel (g := 0) (ti := 54) (tp := 104) (te := 106) (ts := 9) h1 (by kernel_rfl) (by kernel_rfl) Tryd.underlying54 row104 Tryd.underlying104 Tryd.underlying106 rfl rfl Tryd.underlying9 (by kernel_rfl) (by kernel_rfl)
  exact ⟨_, _, hv0⟩
theorem ld_of {W : World} (h : laidMetH Tryd.prog laidL W) : LD W := ⟨laid_tab (noHandle h), laid_syn (noHandle h)⟩
theorem laid_met (os : Os) (args : Array Value) : laidMet Tryd.prog laidL ((World.laidAll Tryd.prog os laidL).forCall (fun _ _ => 0) ⟨#[], args, []⟩).memory :=
  laidMet_laidAll args (by kernel_rfl) (by kernel_rfl)

end Go.Proofs.YtffdbbcmibamjaaDoor

namespace Go.Proofs.YtffdbbcmibamjaaDoor
open Go.RowKit Go.PK
set_option linter.unusedVariables false
set_option linter.unusedSimpArgs false

theorem civ_m1 : civ (-1) = (1969, 12, 31) := civ_eq (by decide) ⟨by decide, by decide, by decide, by decide, by decide, by decide +kernel⟩
theorem civ_leap : civ 11016 = (2000, 2, 29) := civ_eq (by decide) ⟨by decide, by decide, by decide, by decide, by decide, by decide +kernel⟩
theorem text_leap : textR 11016 = ⟨#[50, 48, 48, 48, 45, 48, 50, 45, 50, 57]⟩ := by unfold textR; rw [if_pos (by decide), civ_leap]; decide +kernel
theorem read_leap : readC ⟨#[50, 48, 48, 48, 45, 48, 50, 45, 50, 57]⟩ = (11016, 0) := by rw [readC_eq]; decide +kernel
theorem read_short : readC ⟨#[50, 48, 48, 48, 45, 50, 45, 50, 57]⟩ = (0, 11) := by rw [readC_eq]; decide +kernel
set_option maxRecDepth 100000 in
theorem c12 (w : World) (hL : LD w) :
    Calls Tryd.prog 12 #[] w fun e w' => e = .returned (.bool true) ∧ Later w w' := by
  refine enter (vs := []) Tryd.func12 rfl Tryd.ntmps12 rfl ?_
  refine w_seq ?_
  refine rg_text ?_
  refine x_val rfl rfl rfl (v_assign rfl) ?_
  refine x_end ?_
  refine t_norm ?_
  refine w_seq ?_
  refine rg_text ?_
  refine x_callv rfl rfl rfl Tryd.func13 (by kernel_rfl) rfl (fun w1 hw1 => c13 _ _ _ w1 (by unfold in64; decide)) ?_
  refine x_val rfl rfl rfl (v_move rfl) ?_
  refine x_val rfl rfl rfl (v_extract rfl rfl) ?_
  refine x_bool rfl rfl rfl (v_extract rfl rfl) ?_
  intro b21 hb21
  obtain rfl : b21 = true := hb21.trans (by decide)
  refine x_val rfl rfl rfl (v_assign rfl) ?_
  refine x_val rfl rfl rfl (v_assign rfl) ?_
  refine x_end ?_
  refine t_norm ?_
  refine w_seq ?_
  refine rg_text ?_
  refine x_callv rfl rfl rfl Tryd.func13 (by kernel_rfl) rfl (fun w1 hw1 => c13 _ _ _ w1 (by unfold in64; decide)) ?_
  refine x_val rfl rfl rfl (v_move rfl) ?_
  refine x_val rfl rfl rfl (v_extract rfl rfl) ?_
  refine x_bool rfl rfl rfl (v_extract rfl rfl) ?_
  intro b25 hb25
  obtain rfl : b25 = true := hb25.trans (by decide)
  refine x_val rfl rfl rfl (v_assign rfl) ?_
  refine x_val rfl rfl rfl (v_assign rfl) ?_
  refine x_end ?_
  refine t_norm ?_
  refine w_seq ?_
  refine rg_text ?_
  refine x_callv rfl rfl rfl Tryd.func13 (by kernel_rfl) rfl (fun w1 hw1 => c13 _ _ _ w1 (by unfold in64; decide)) ?_
  refine x_val rfl rfl rfl (v_move rfl) ?_
  refine x_val rfl rfl rfl (v_extract rfl rfl) ?_
  refine x_bool rfl rfl rfl (v_extract rfl rfl) ?_
  intro b29 hb29
  refine x_val rfl rfl rfl (v_assign rfl) ?_
  refine x_val rfl rfl rfl (v_assign rfl) ?_
  refine x_end ?_
  refine t_norm ?_
  refine w_seq ?_
  refine rg_text ?_
  refine x_callv rfl rfl rfl Tryd.func15 (by kernel_rfl) rfl (fun w1 hw1 => c15 _ w1) ?_
  refine x_val rfl rfl rfl (v_move rfl) ?_
  refine x_val rfl rfl rfl (v_extract rfl rfl) ?_
  refine x_val rfl rfl rfl (v_extract rfl rfl) ?_
  refine x_val rfl rfl rfl (v_extract rfl rfl) ?_
  refine x_val rfl rfl rfl (v_assign rfl) ?_
  refine x_val rfl rfl rfl (v_assign rfl) ?_
  refine x_val rfl rfl rfl (v_assign rfl) ?_
  refine x_end ?_
  refine t_norm ?_
  refine w_seq ?_
  refine rg_text ?_
  refine x_val rfl rfl rfl (v_move rfl) ?_
  refine x_val rfl rfl rfl (v_move rfl) ?_
  refine x_if [] rfl rfl rfl rfl rfl (fun hg => by obtain ⟨hg0, _⟩ := hg; (try simp only [List.cons_append, List.nil_append, gvl_nil, gvl_t, gvl_f]); exact v_move rfl) ?_
  refine x_bool rfl rfl rfl (v_and rfl rfl) ?_
  intro b38 hb38
  obtain rfl : b38 = true := hb38
  refine x_val rfl rfl rfl (v_move rfl) ?_
  refine x_if [] rfl rfl rfl rfl rfl (fun hg => by obtain ⟨hg0, _⟩ := hg; (try simp only [List.cons_append, List.nil_append, gvl_nil, gvl_t, gvl_f]); exact v_move rfl) ?_
  refine x_ifb [] rfl rfl rfl rfl rfl (fun hg => by obtain ⟨hg0, _⟩ := hg; (try simp only [List.cons_append, List.nil_append, gvl_nil, gvl_t, gvl_f]); exact v_not rfl) ?_
  intro b41 hb41
  obtain rfl : b41 = true := hb41.trans (by rw [hb29]; decide)
  refine x_bool rfl rfl rfl (v_and rfl rfl) ?_
  intro b42 hb42
  obtain rfl : b42 = true := hb42
  refine x_val rfl rfl rfl (v_move rfl) ?_
  refine x_if [] rfl rfl rfl rfl rfl (fun hg => by obtain ⟨hg0, _⟩ := hg; (try simp only [List.cons_append, List.nil_append, gvl_nil, gvl_t, gvl_f]); exact v_move rfl) ?_
  refine x_ifb [] rfl rfl rfl rfl rfl (fun hg => by obtain ⟨hg0, _⟩ := hg; (try simp only [List.cons_append, List.nil_append, gvl_nil, gvl_t, gvl_f]); exact v_eql rfl rfl) ?_
  intro b45 hb45
  obtain rfl : b45 = true := hb45.trans (by decide +kernel)
  refine x_bool rfl rfl rfl (v_and rfl rfl) ?_
  intro b46 hb46
  obtain rfl : b46 = true := hb46
  refine x_val rfl rfl rfl (v_move rfl) ?_
  refine x_if [] rfl rfl rfl rfl rfl (fun hg => by obtain ⟨hg0, _⟩ := hg; (try simp only [List.cons_append, List.nil_append, gvl_nil, gvl_t, gvl_f]); exact v_move rfl) ?_
  refine x_ifb [] rfl rfl rfl rfl rfl (fun hg => by obtain ⟨hg0, _⟩ := hg; (try simp only [List.cons_append, List.nil_append, gvl_nil, gvl_t, gvl_f]); exact v_eql rfl rfl) ?_
  intro b49 hb49
  obtain rfl : b49 = true := hb49.trans (by decide +kernel)
  refine x_bool rfl rfl rfl (v_and rfl rfl) ?_
  intro b50 hb50
  obtain rfl : b50 = true := hb50
  refine x_val rfl rfl rfl (v_move rfl) ?_
  refine x_if [] rfl rfl rfl rfl rfl (fun hg => by obtain ⟨hg0, _⟩ := hg; (try simp only [List.cons_append, List.nil_append, gvl_nil, gvl_t, gvl_f]); exact v_move rfl) ?_
  refine x_ifb [] rfl rfl rfl rfl rfl (fun hg => by obtain ⟨hg0, _⟩ := hg; (try simp only [List.cons_append, List.nil_append, gvl_nil, gvl_t, gvl_f]); exact v_eql rfl rfl) ?_
  intro b53 hb53
  obtain rfl : b53 = true := hb53.trans (by rw [civ_m1]; rfl)
  refine x_bool rfl rfl rfl (v_and rfl rfl) ?_
  intro b54 hb54
  obtain rfl : b54 = true := hb54
  refine x_val rfl rfl rfl (v_move rfl) ?_
  refine x_if [] rfl rfl rfl rfl rfl (fun hg => by obtain ⟨hg0, _⟩ := hg; (try simp only [List.cons_append, List.nil_append, gvl_nil, gvl_t, gvl_f]); exact v_move rfl) ?_
  refine x_ifb [] rfl rfl rfl rfl rfl (fun hg => by obtain ⟨hg0, _⟩ := hg; (try simp only [List.cons_append, List.nil_append, gvl_nil, gvl_t, gvl_f]); exact v_eql rfl rfl) ?_
  intro b57 hb57
  obtain rfl : b57 = true := hb57.trans (by rw [civ_m1]; rfl)
  refine x_bool rfl rfl rfl (v_and rfl rfl) ?_
  intro b58 hb58
  obtain rfl : b58 = true := hb58
  refine x_val rfl rfl rfl (v_move rfl) ?_
  refine x_if [] rfl rfl rfl rfl rfl (fun hg => by obtain ⟨hg0, _⟩ := hg; (try simp only [List.cons_append, List.nil_append, gvl_nil, gvl_t, gvl_f]); exact v_move rfl) ?_
  refine x_ifb [] rfl rfl rfl rfl rfl (fun hg => by obtain ⟨hg0, _⟩ := hg; (try simp only [List.cons_append, List.nil_append, gvl_nil, gvl_t, gvl_f]); exact v_eql rfl rfl) ?_
  intro b61 hb61
  obtain rfl : b61 = true := hb61.trans (by rw [civ_m1]; rfl)
  refine x_bool rfl rfl rfl (v_and rfl rfl) ?_
  intro b62 hb62
  obtain rfl : b62 = true := hb62
  refine x_val rfl rfl rfl (v_move rfl) ?_
  refine x_call_if [] rfl rfl rfl rfl rfl Tryd.func17 (by kernel_rfl) (fun hg => by obtain ⟨hg0, _⟩ := hg; (try simp only [List.cons_append, List.nil_append, gvl_nil, gvl_t, gvl_f]); refine ⟨_, rfl, ?_⟩; exact fun w1 hw1 => c17 _ w1) ?_
  refine x_ifb [] rfl rfl rfl rfl rfl (fun hg => by obtain ⟨hg0, _⟩ := hg; (try simp only [List.cons_append, List.nil_append, gvl_nil, gvl_t, gvl_f]); exact v_eql rfl rfl) ?_
  intro b65 hb65
  obtain rfl : b65 = true := hb65.trans (by decide)
  refine x_bool rfl rfl rfl (v_and rfl rfl) ?_
  intro b66 hb66
  obtain rfl : b66 = true := hb66
  refine x_val rfl rfl rfl (v_move rfl) ?_
  refine x_call_if [] rfl rfl rfl rfl rfl Tryd.func17 (by kernel_rfl) (fun hg => by obtain ⟨hg0, _⟩ := hg; (try simp only [List.cons_append, List.nil_append, gvl_nil, gvl_t, gvl_f]); refine ⟨_, rfl, ?_⟩; exact fun w1 hw1 => c17 _ w1) ?_
  refine x_ifb [] rfl rfl rfl rfl rfl (fun hg => by obtain ⟨hg0, _⟩ := hg; (try simp only [List.cons_append, List.nil_append, gvl_nil, gvl_t, gvl_f]); exact v_eql rfl rfl) ?_
  intro b69 hb69
  obtain rfl : b69 = true := hb69.trans (by decide)
  refine x_bool rfl rfl rfl (v_and rfl rfl) ?_
  intro b70 hb70
  obtain rfl : b70 = true := hb70
  refine x_val rfl rfl rfl (v_assign rfl) ?_
  refine x_end ?_
  refine t_norm ?_
  refine w_seq ?_
  refine rg_text ?_
  refine x_val rfl rfl rfl (v_buildArr Tryd.underlying36 zr36 sz4 rfl rfl) ?_
  refine x_buildSliceL rfl rfl rfl Tryd.underlying26 sz3 zr3 rfl rfl rfl ?_
  intro p72
  refine x_val rfl rfl rfl (v_buildL (places := [(0, 7), (7, 1)]) Tryd.underlying38 zr38 (by kernel_rfl) rfl rfl) ?_
  refine x_alloc rfl rfl rfl zr38 ?_
  intro p11
  refine x_store0 [] rfl rfl rfl rfl sz38 rfl rfl ?_
  refine x_end ?_
  refine t_norm ?_
  refine w_seq ?_
  refine rg_text ?_
  refine x_val rfl rfl rfl (v_load_blk (e := 38) (fz := (0, 0)) (cs := (calC [false, false, false, false, false, true, true] (.slice (some ⟨p72, 0, none⟩) 1 1)).toArray) Tryd.underlying38 rfl rfl (.head _) sz38) ?_
  refine x_callv rfl rfl rfl Tryd.func23 (by kernel_rfl) rfl (fun w1 hw1 => c23 (wk := [false, false, false, false, false, true, true]) (v := (.slice (some ⟨p72, 0, none⟩) 1 1)) _ w1 (rowI_rd (D := fun _ => True) (e := 3) (r := some (p72, [Value.int .i64 4], 1)) (n := 1) (ds := [4]) (rowOK_lit rfl (by decide)) rfl (by unfold in64; decide) hw1 (fun p hp => by rw [List.mem_singleton.1 hp]; exact .tail _ (.head _)) (fun _ _ => trivial)) rfl (by unfold in64; decide)) ?_
  refine x_val rfl rfl rfl (v_move rfl) ?_
  refine x_val rfl rfl rfl (v_extract rfl rfl) ?_
  refine x_bool rfl rfl rfl (v_extract rfl rfl) ?_
  intro b78 hb78
  obtain rfl : b78 = true := hb78.trans (by decide +kernel)
  refine x_val rfl rfl rfl (v_assign rfl) ?_
  refine x_val rfl rfl rfl (v_assign rfl) ?_
  refine x_end ?_
  refine t_norm ?_
  refine w_seq ?_
  refine rg_text ?_
  refine x_callv rfl rfl rfl Tryd.func21 (by kernel_rfl) rfl (fun w1 hw1 => c21 _ w1 (by unfold okS; decide) (hL.later (hw1.base (by simp)))) ?_
  refine x_val rfl rfl rfl (v_move rfl) ?_
  refine x_val rfl rfl rfl (v_extract rfl rfl) ?_
  refine x_val rfl rfl rfl (v_extract rfl rfl) ?_
  refine x_val rfl rfl rfl (v_assign rfl) ?_
  refine x_val rfl rfl rfl (v_assign rfl) ?_
  refine x_end ?_
  refine t_norm ?_
  refine w_seq ?_
  refine rg_text ?_
  refine x_callv rfl rfl rfl Tryd.func21 (by kernel_rfl) rfl (fun w1 hw1 => c21 _ w1 (by unfold okS; decide) (hL.later (hw1.base (by simp)))) ?_
  refine x_val rfl rfl rfl (v_move rfl) ?_
  refine x_val rfl rfl rfl (v_extract rfl rfl) ?_
  refine x_val rfl rfl rfl (v_extract rfl rfl) ?_
  refine x_val rfl rfl rfl (v_assign rfl) ?_
  refine x_val rfl rfl rfl (v_assign rfl) ?_
  refine x_end ?_
  refine t_norm ?_
  refine w_seq ?_
  refine rg_text ?_
  refine x_val rfl rfl rfl (v_move rfl) ?_
  refine x_val rfl rfl rfl (v_move rfl) ?_
  refine x_if [] rfl rfl rfl rfl rfl (fun hg => by obtain ⟨hg0, _⟩ := hg; (try simp only [List.cons_append, List.nil_append, gvl_nil, gvl_t, gvl_f]); exact v_move rfl) ?_
  refine x_bool rfl rfl rfl (v_and rfl rfl) ?_
  intro b90 hb90
  obtain rfl : b90 = true := hb90
  refine x_val rfl rfl rfl (v_move rfl) ?_
  refine x_if [] rfl rfl rfl rfl rfl (fun hg => by obtain ⟨hg0, _⟩ := hg; (try simp only [List.cons_append, List.nil_append, gvl_nil, gvl_t, gvl_f]); exact v_move rfl) ?_
  refine x_ifb [] rfl rfl rfl rfl rfl (fun hg => by obtain ⟨hg0, _⟩ := hg; (try simp only [List.cons_append, List.nil_append, gvl_nil, gvl_t, gvl_f]); exact v_eql rfl rfl) ?_
  intro b93 hb93
  obtain rfl : b93 = true := hb93.trans (by decide +kernel)
  refine x_bool rfl rfl rfl (v_and rfl rfl) ?_
  intro b94 hb94
  obtain rfl : b94 = true := hb94
  refine x_val rfl rfl rfl (v_move rfl) ?_
  refine x_if [] rfl rfl rfl rfl rfl (fun hg => by obtain ⟨hg0, _⟩ := hg; (try simp only [List.cons_append, List.nil_append, gvl_nil, gvl_t, gvl_f]); exact v_load_blk (e := 38) (fz := (0, 0)) (cs := (calC [false, false, false, false, false, true, true] (.slice (some ⟨p72, 0, none⟩) 1 1)).toArray) Tryd.underlying38 rfl rfl (.head _) sz38) ?_
  refine x_call_if [] rfl rfl rfl rfl rfl Tryd.func25 (by kernel_rfl) (fun hg => by obtain ⟨hg0, _⟩ := hg; (try simp only [List.cons_append, List.nil_append, gvl_nil, gvl_t, gvl_f]); refine ⟨_, rfl, ?_⟩; exact fun w1 hw1 => c25 (wk := [false, false, false, false, false, true, true]) (v := (.slice (some ⟨p72, 0, none⟩) 1 1)) _ _ w1 (rowI_rd (D := fun _ => True) (e := 3) (r := some (p72, [Value.int .i64 4], 1)) (n := 1) (ds := [4]) (rowOK_lit rfl (by decide)) rfl (by unfold in64; decide) hw1 (fun p hp => by rw [List.mem_singleton.1 hp]; exact .tail _ (.head _)) (fun _ _ => trivial)) rfl (by decide)) ?_
  refine x_ifb [] rfl rfl rfl rfl rfl (fun hg => by obtain ⟨hg0, _⟩ := hg; (try simp only [List.cons_append, List.nil_append, gvl_nil, gvl_t, gvl_f]); exact v_eql rfl rfl) ?_
  intro b98 hb98
  obtain rfl : b98 = true := hb98.trans (by decide +kernel)
  refine x_bool rfl rfl rfl (v_and rfl rfl) ?_
  intro b99 hb99
  obtain rfl : b99 = true := hb99
  refine x_val rfl rfl rfl (v_move rfl) ?_
  refine x_call_if [] rfl rfl rfl rfl rfl Tryd.func19 (by kernel_rfl) (fun hg => by obtain ⟨hg0, _⟩ := hg; (try simp only [List.cons_append, List.nil_append, gvl_nil, gvl_t, gvl_f]); refine ⟨_, rfl, ?_⟩; exact fun w1 hw1 => c19 _ w1 (by unfold in64; decide) (hL.later (hw1.base (by simp)))) ?_
  refine x_ifb [] rfl rfl rfl rfl rfl (fun hg => by obtain ⟨hg0, _⟩ := hg; (try simp only [List.cons_append, List.nil_append, gvl_nil, gvl_t, gvl_f]); exact v_seql rfl rfl) ?_
  intro b102 hb102
  obtain rfl : b102 = true := hb102.trans (by rw [text_leap]; decide)
  refine x_bool rfl rfl rfl (v_and rfl rfl) ?_
  intro b103 hb103
  obtain rfl : b103 = true := hb103
  refine x_val rfl rfl rfl (v_move rfl) ?_
  refine x_if [] rfl rfl rfl rfl rfl (fun hg => by obtain ⟨hg0, _⟩ := hg; (try simp only [List.cons_append, List.nil_append, gvl_nil, gvl_t, gvl_f]); exact v_move rfl) ?_
  refine x_ifb [] rfl rfl rfl rfl rfl (fun hg => by obtain ⟨hg0, _⟩ := hg; (try simp only [List.cons_append, List.nil_append, gvl_nil, gvl_t, gvl_f]); exact v_eql rfl rfl) ?_
  intro b106 hb106
  obtain rfl : b106 = true := hb106.trans (by rw [read_leap]; decide)
  refine x_bool rfl rfl rfl (v_and rfl rfl) ?_
  intro b107 hb107
  obtain rfl : b107 = true := hb107
  refine x_val rfl rfl rfl (v_move rfl) ?_
  refine x_if [] rfl rfl rfl rfl rfl (fun hg => by obtain ⟨hg0, _⟩ := hg; (try simp only [List.cons_append, List.nil_append, gvl_nil, gvl_t, gvl_f]); exact v_move rfl) ?_
  refine x_ifb [] rfl rfl rfl rfl rfl (fun hg => by obtain ⟨hg0, _⟩ := hg; (try simp only [List.cons_append, List.nil_append, gvl_nil, gvl_t, gvl_f]); exact v_eql rfl rfl) ?_
  intro b110 hb110
  obtain rfl : b110 = true := hb110.trans (by rw [read_leap]; decide)
  refine x_bool rfl rfl rfl (v_and rfl rfl) ?_
  intro b111 hb111
  obtain rfl : b111 = true := hb111
  refine x_val rfl rfl rfl (v_move rfl) ?_
  refine x_if [] rfl rfl rfl rfl rfl (fun hg => by obtain ⟨hg0, _⟩ := hg; (try simp only [List.cons_append, List.nil_append, gvl_nil, gvl_t, gvl_f]); exact v_move rfl) ?_
  refine x_ifb [] rfl rfl rfl rfl rfl (fun hg => by obtain ⟨hg0, _⟩ := hg; (try simp only [List.cons_append, List.nil_append, gvl_nil, gvl_t, gvl_f]); exact v_eql rfl rfl) ?_
  intro b114 hb114
  obtain rfl : b114 = true := hb114.trans (by rw [read_short]; decide)
  refine x_bool rfl rfl rfl (v_and rfl rfl) ?_
  intro b115 hb115
  obtain rfl : b115 = true := hb115
  refine x_val rfl rfl rfl (v_assign rfl) ?_
  refine x_end ?_
  refine t_norm ?_
  refine w_ret ?_
  refine ret1 rfl rfl (fun w' hm => ⟨?_, hm.base (by simp)⟩)
  rfl

end Go.Proofs.YtffdbbcmibamjaaDoor

namespace Go.Proofs.YtffdbbcmibamjaaDoor
open Go.RowKit Go.PK
set_option linter.unusedVariables false
set_option linter.unusedSimpArgs false

theorem tmod_in {a : Int} (m : Int) (h : 0 < m) (hm : m ≤ 9223372036854775807) : in64 (a.tmod m) := by
  have := tmod_bd a m h
  unfold in64; omega
set_option maxRecDepth 100000 in
theorem c3 (y m d : Int) (w : World) (hy : in64 y) (hL : LD w) :
    Calls Tryd.prog 3 #[.int .i64 y, .int .i64 m, .int .i64 d] w fun e w' => e = .returned (.bool true) ∧ Later w w' := by
  refine enter (vs := [.int .i64 y, .int .i64 m, .int .i64 d]) Tryd.func3 rfl Tryd.ntmps3 rfl ?_
  refine w_seq ?_
  refine rg_text ?_
  refine x_val rfl rfl rfl (v_assign rfl) ?_
  refine x_end ?_
  refine t_norm ?_
  refine w_seq ?_
  refine rg_text ?_
  refine x_callb rfl rfl rfl Tryd.func12 (by kernel_rfl) rfl (fun w1 hw1 => c12 w1 (hL.later (hw1.base (by simp)))) ?_
  intro b16 hb16
  obtain rfl : b16 = true := hb16
  refine x_val rfl rfl rfl (v_assign rfl) ?_
  refine x_end ?_
  refine t_norm ?_
  refine w_seq ?_
  refine rg_text ?_
  refine x_val rfl rfl rfl (v_move rfl) ?_
  refine x_val rfl rfl rfl (v_move rfl) ?_
  refine x_val rfl rfl rfl (v_move rfl) ?_
  refine x_callv rfl rfl rfl Tryd.func13 (by kernel_rfl) rfl (fun w1 hw1 => c13 _ _ _ w1 (by first | assumption | exact tmod_in _ (by decide) (by decide))) ?_
  refine x_val rfl rfl rfl (v_move rfl) ?_
  refine x_val rfl rfl rfl (v_extract rfl rfl) ?_
  refine x_bool rfl rfl rfl (v_extract rfl rfl) ?_
  intro b23 hb23
  refine x_val rfl rfl rfl (v_assign rfl) ?_
  refine x_val rfl rfl rfl (v_assign rfl) ?_
  refine x_end ?_
  refine t_norm ?_
  refine w_seq ?_
  refine rg_text ?_
  refine x_val rfl rfl rfl (v_move rfl) ?_
  refine x_val rfl rfl rfl (v_move rfl) ?_
  refine x_val rfl rfl rfl (v_move rfl) ?_
  refine x_callv rfl rfl rfl Tryd.func14 (by kernel_rfl) rfl (fun w1 hw1 => c14 _ _ _ w1 (by first | assumption | exact tmod_in _ (by decide) (by decide))) ?_
  refine x_val rfl rfl rfl (v_move rfl) ?_
  refine x_val rfl rfl rfl (v_extract rfl rfl) ?_
  refine x_bool rfl rfl rfl (v_extract rfl rfl) ?_
  intro b30 hb30
  refine x_val rfl rfl rfl (v_assign rfl) ?_
  refine x_val rfl rfl rfl (v_assign rfl) ?_
  refine x_end ?_
  refine t_norm ?_
  refine w_seq ?_
  refine rg_text ?_
  refine x_val rfl rfl rfl (v_move rfl) ?_
  refine x_val rfl rfl rfl (v_rem rfl rfl (by decide)) ?_
  refine x_val rfl rfl rfl (v_move rfl) ?_
  refine x_val rfl rfl rfl (v_rem rfl rfl (by decide)) ?_
  refine x_val rfl rfl rfl (v_move rfl) ?_
  refine x_val rfl rfl rfl (v_rem rfl rfl (by decide)) ?_
  refine x_callv rfl rfl rfl Tryd.func13 (by kernel_rfl) rfl (fun w1 hw1 => c13 _ _ _ w1 (by first | assumption | exact tmod_in _ (by decide) (by decide))) ?_
  refine x_val rfl rfl rfl (v_move rfl) ?_
  refine x_val rfl rfl rfl (v_extract rfl rfl) ?_
  refine x_bool rfl rfl rfl (v_extract rfl rfl) ?_
  intro b40 hb40
  refine x_val rfl rfl rfl (v_assign rfl) ?_
  refine x_val rfl rfl rfl (v_assign rfl) ?_
  refine x_end ?_
  refine t_norm ?_
  refine w_seq ?_
  refine rg_text ?_
  refine x_val rfl rfl rfl (v_move rfl) ?_
  refine x_val rfl rfl rfl (v_rem rfl rfl (by decide)) ?_
  refine x_val rfl rfl rfl (v_move rfl) ?_
  refine x_val rfl rfl rfl (v_rem rfl rfl (by decide)) ?_
  refine x_val rfl rfl rfl (v_move rfl) ?_
  refine x_val rfl rfl rfl (v_rem rfl rfl (by decide)) ?_
  refine x_callv rfl rfl rfl Tryd.func14 (by kernel_rfl) rfl (fun w1 hw1 => c14 _ _ _ w1 (by first | assumption | exact tmod_in _ (by decide) (by decide))) ?_
  refine x_val rfl rfl rfl (v_move rfl) ?_
  refine x_val rfl rfl rfl (v_extract rfl rfl) ?_
  refine x_bool rfl rfl rfl (v_extract rfl rfl) ?_
  intro b50 hb50
  refine x_val rfl rfl rfl (v_assign rfl) ?_
  refine x_val rfl rfl rfl (v_assign rfl) ?_
  refine x_end ?_
  refine t_norm ?_
  refine w_seq ?_
  refine rg_text ?_
  refine x_val rfl rfl rfl (v_move rfl) ?_
  refine x_val rfl rfl rfl (v_move rfl) ?_
  refine x_if [] rfl rfl rfl rfl rfl (fun hg => by obtain ⟨hg0, _⟩ := hg; (try simp only [List.cons_append, List.nil_append, gvl_nil, gvl_t, gvl_f]); exact v_move rfl) ?_
  refine x_if [] rfl rfl rfl rfl rfl (fun hg => by obtain ⟨hg0, _⟩ := hg; (try simp only [List.cons_append, List.nil_append, gvl_nil, gvl_t, gvl_f]); exact v_move rfl) ?_
  refine x_ifb [] rfl rfl rfl rfl rfl (fun hg => by obtain ⟨hg0, _⟩ := hg; (try simp only [List.cons_append, List.nil_append, gvl_nil, gvl_t, gvl_f]); exact v_eql rfl rfl) ?_
  intro b55 hb55
  obtain rfl : b55 = true := hb55.trans (decide_eq_true rfl)
  refine x_bool rfl rfl rfl (v_and rfl rfl) ?_
  intro b56 hb56
  obtain rfl : b56 = true := hb56
  refine x_val rfl rfl rfl (v_move rfl) ?_
  refine x_if [] rfl rfl rfl rfl rfl (fun hg => by obtain ⟨hg0, _⟩ := hg; (try simp only [List.cons_append, List.nil_append, gvl_nil, gvl_t, gvl_f]); exact v_move rfl) ?_
  refine x_if [] rfl rfl rfl rfl rfl (fun hg => by obtain ⟨hg0, _⟩ := hg; (try simp only [List.cons_append, List.nil_append, gvl_nil, gvl_t, gvl_f]); exact v_move rfl) ?_
  refine x_ifb [] rfl rfl rfl rfl rfl (fun hg => by obtain ⟨hg0, _⟩ := hg; (try simp only [List.cons_append, List.nil_append, gvl_nil, gvl_t, gvl_f]); exact v_beql rfl rfl Tryd.underlying4) ?_
  intro b60 hb60
  obtain rfl : b60 = true := by rw [hb60, hb23, hb30]; exact beq_self_eq_true _
  refine x_bool rfl rfl rfl (v_and rfl rfl) ?_
  intro b61 hb61
  obtain rfl : b61 = true := hb61
  refine x_val rfl rfl rfl (v_move rfl) ?_
  refine x_if [] rfl rfl rfl rfl rfl (fun hg => by obtain ⟨hg0, _⟩ := hg; (try simp only [List.cons_append, List.nil_append, gvl_nil, gvl_t, gvl_f]); exact v_move rfl) ?_
  refine x_if [] rfl rfl rfl rfl rfl (fun hg => by obtain ⟨hg0, _⟩ := hg; (try simp only [List.cons_append, List.nil_append, gvl_nil, gvl_t, gvl_f]); exact v_move rfl) ?_
  refine x_ifb [] rfl rfl rfl rfl rfl (fun hg => by obtain ⟨hg0, _⟩ := hg; (try simp only [List.cons_append, List.nil_append, gvl_nil, gvl_t, gvl_f]); exact v_eql rfl rfl) ?_
  intro b65 hb65
  obtain rfl : b65 = true := hb65.trans (decide_eq_true rfl)
  refine x_bool rfl rfl rfl (v_and rfl rfl) ?_
  intro b66 hb66
  obtain rfl : b66 = true := hb66
  refine x_val rfl rfl rfl (v_move rfl) ?_
  refine x_if [] rfl rfl rfl rfl rfl (fun hg => by obtain ⟨hg0, _⟩ := hg; (try simp only [List.cons_append, List.nil_append, gvl_nil, gvl_t, gvl_f]); exact v_move rfl) ?_
  refine x_if [] rfl rfl rfl rfl rfl (fun hg => by obtain ⟨hg0, _⟩ := hg; (try simp only [List.cons_append, List.nil_append, gvl_nil, gvl_t, gvl_f]); exact v_move rfl) ?_
  refine x_ifb [] rfl rfl rfl rfl rfl (fun hg => by obtain ⟨hg0, _⟩ := hg; (try simp only [List.cons_append, List.nil_append, gvl_nil, gvl_t, gvl_f]); exact v_beql rfl rfl Tryd.underlying4) ?_
  intro b70 hb70
  obtain rfl : b70 = true := by rw [hb70, hb40, hb50]; exact beq_self_eq_true _
  refine x_bool rfl rfl rfl (v_and rfl rfl) ?_
  intro b71 hb71
  obtain rfl : b71 = true := hb71
  refine x_val rfl rfl rfl (v_assign rfl) ?_
  refine x_end ?_
  refine t_norm ?_
  refine w_ret ?_
  refine ret1 rfl rfl (fun w' hm => ⟨?_, hm.base (by simp)⟩)
  rfl

theorem readC_back {n : Int} (h : okDay n) : readC (textR n) = (n, 0) := by
  obtain ⟨y, m, d, h1, h2, h3, h4⟩ := textR_dig h
  have hr := civ_rng h
  have hc := civ_is h
  have dg : ∀ c : Int, ((digB c).toNat : Int) = 48 + c % 10 := fun c => by
    unfold digB
    rw [UInt8.toNat_ofNat_of_lt' (by show _ < 256; omega)]
    omega
  have ey : yO (textR n) = y := by
    rw [h1]
    show numO ⟨#[digB (y / 1000), digB (y / 100), digB (y / 10), digB y]⟩ = y
    rw [numO4 (isDig_digB _) (isDig_digB _) (isDig_digB _) (isDig_digB _), dg, dg, dg, dg]
    omega
  have em : mO (textR n) = m := by
    rw [h1]
    show numO ⟨#[digB (m / 10), digB m]⟩ = m
    rw [numO2 (isDig_digB _) (isDig_digB _), dg, dg]
    omega
  have ed : dO (textR n) = d := by
    rw [h1]
    show numO ⟨#[digB (d / 10), digB d]⟩ = d
    rw [numO2 (isDig_digB _) (isDig_digB _), dg, dg]
    omega
  have hv : validD y m d := by
    refine ⟨by omega, by omega, by omega, by omega, by omega, ?_⟩
    rw [h2, h3, h4]; exact hc.d2
  have hd : dayV y m d = n := by
    unfold dayV
    rw [if_pos hv, h2, h3, h4, Int.toNat_natCast]
    exact hc.is
  have hs : (textR n).size = 10 := by rw [h1]; rfl
  unfold readC
  rw [ey, em, ed, hd, if_pos ⟨hs, hv, rfl⟩]
theorem readC_none {n : Int} (h : ¬okDay n) : readC (textR n) = (0, 11) := by
  unfold readC textR
  rw [if_neg h, if_neg]
  rintro ⟨h1, _⟩
  exact absurd h1 (by decide)
theorem civ_valid {n : Int} (h : okDay n) : validD (civ n).1 (civ n).2.1 (civ n).2.2 ∧ dayV (civ n).1 (civ n).2.1 (civ n).2.2 = n := by
  have hr := civ_rng h
  have hc := civ_is h
  have hv : validD (civ n).1 (civ n).2.1 (civ n).2.2 := ⟨by omega, by omega, by omega, by omega, by omega, hc.d2⟩
  refine ⟨hv, ?_⟩
  unfold dayV
  rw [if_pos hv, Int.toNat_natCast]
  exact hc.is
theorem civ_invalid {n : Int} (h : ¬okDay n) : ¬validD (civ n).1 (civ n).2.1 (civ n).2.2 := by
  rw [civ_no h]; decide
theorem textR_ok (n : Int) : okS (textR n) := by
  unfold okS textR
  split
  · simp only [ByteArray.size_append, lowD_size]; decide
  · decide
theorem civ_in (n : Int) : in64 (civ n).1 := by
  by_cases h : okDay n
  · have := civ_rng h; unfold in64; omega
  · rw [civ_no h]; unfold in64; decide
set_option maxRecDepth 100000 in
theorem c4 (n : Int) (w : World) (hn : in64 n) (hL : LD w) :
    Calls Tryd.prog 4 #[.int .i64 n] w fun e w' => e = .returned (.bool true) ∧ Later w w' := by
  refine enter (vs := [.int .i64 n]) Tryd.func4 rfl Tryd.ntmps4 rfl ?_
  refine w_seq ?_
  refine rg_text ?_
  refine x_val rfl rfl rfl (v_assign rfl) ?_
  refine x_end ?_
  refine t_norm ?_
  refine w_seq ?_
  refine rg_text ?_
  refine x_callb rfl rfl rfl Tryd.func12 (by kernel_rfl) rfl (fun w1 hw1 => c12 w1 (hL.later (hw1.base (by simp)))) ?_
  intro b17 hb17
  obtain rfl : b17 = true := hb17
  refine x_val rfl rfl rfl (v_assign rfl) ?_
  refine x_end ?_
  refine t_norm ?_
  refine w_seq ?_
  refine rg_text ?_
  refine x_val rfl rfl rfl (v_move rfl) ?_
  refine x_val rfl rfl rfl (v_move rfl) ?_
  refine x_val rfl rfl rfl (v_rem rfl rfl (by decide)) ?_
  refine x_val rfl rfl rfl (v_move rfl) ?_
  refine x_val rfl rfl rfl (v_rem rfl rfl (by decide)) ?_
  refine x_buildSliceL rfl rfl rfl Tryd.underlying26 sz3 zr3 rfl rfl rfl ?_
  intro p23
  refine x_val rfl rfl rfl (v_assign rfl) ?_
  refine x_end ?_
  refine t_norm ?_
  refine w_seq ?_
  refine w_seq ?_
  refine rg_text ?_
  refine x_val rfl rfl rfl (v_assign rfl) ?_
  refine x_end ?_
  refine t_norm ?_
  refine w_block ?_
  refine w_loop (σ := Nat) (fun k => k ≤ 3) (fun k => [(3, Value.bool true), (4, .slice (some ⟨p23, 0, none⟩) 3 3), (5, Value.int .i64 (k : Nat))]) (fun k => [(p23, Obj.cells ([n, n.tmod 3000000, n.tmod 800000].map (Value.int .i64)).toArray 3)]) (fun k => [(w, fun _ => True)]) (fun k => 3 - k) (0) (Nat.zero_le _) (l_start (by repeat (first | exact Sub.nil | refine Sub.cons rfl ?_)) (fun _ h => h)) ?_
  rintro k hk
  refine w_state ([(3, Value.bool true), (4, .slice (some ⟨p23, 0, none⟩) 3 3), (5, Value.int .i64 (k : Nat))]) ([(p23, Obj.cells ([n, n.tmod 3000000, n.tmod 800000].map (Value.int .i64)).toArray 3)]) ([(w, fun _ => True)]) ?_
  refine w_seq ?_
  refine w_seq ?_
  refine rg_text ?_
  refine x_val rfl rfl rfl (v_move rfl) ?_
  refine x_val rfl rfl rfl (v_move rfl) ?_
  refine x_val rfl rfl rfl (v_len_slice Tryd.underlying26 rfl) ?_
  refine x_bool rfl rfl rfl (v_lss rfl rfl) ?_
  intro b27 hb27
  refine x_end ?_
  refine t_norm ?_
  refine w_cond rfl (fun hc27 => ?_) (fun hc27 => ?_)
  · simp only [hb27, decide_eq_true_eq, decide_eq_false_iff_not, Bool.and_eq_true, Bool.or_eq_true, Bool.and_eq_false_iff, Bool.or_eq_false_iff, Bool.not_eq_true', Bool.not_eq_false', ne_eq, Decidable.not_not] at hc27
    have hk3 : k < 3 := by omega
    obtain ⟨x, hx⟩ : ∃ x, [n, n.tmod 3000000, n.tmod 800000][k]? = some x := ⟨_, List.getElem?_eq_getElem (show k < 3 from hk3)⟩
    have hx64 : in64 x := by
      have hm := List.mem_of_getElem? hx
      simp only [List.mem_cons, List.not_mem_nil, or_false] at hm
      rcases hm with rfl | rfl | rfl
      · exact hn
      · exact tmod_in _ (by decide) (by decide)
      · exact tmod_in _ (by decide) (by decide)
    refine w_skip ?_
    refine t_norm ?_
    refine w_seq ?_
    refine w_block ?_
    refine w_seq ?_
    refine rg_text ?_
    refine x_val rfl rfl rfl (v_move rfl) ?_
    refine x_val rfl rfl rfl (v_move rfl) ?_
    refine x_val rfl rfl rfl (v_indexAddr Tryd.underlying26 sz3 rfl rfl (by omega) rfl) ?_
    refine x_val rfl rfl rfl (v_load Tryd.underlying3 rfl rfl (at_ownL (vs := [n, n.tmod 3000000, n.tmod 800000].map (Value.int .i64)) (.head _) (show ([n, n.tmod 3000000, n.tmod 800000].map (Value.int .i64))[0 + k * 1]? = some (Value.int .i64 x) from by rw [Nat.mul_one, Nat.zero_add, List.getElem?_map, hx]; rfl))) ?_
    refine x_callv rfl rfl rfl Tryd.func15 (by kernel_rfl) rfl (fun w1 hw1 => c15 _ w1) ?_
    refine x_val rfl rfl rfl (v_move rfl) ?_
    refine x_val rfl rfl rfl (v_extract rfl rfl) ?_
    refine x_val rfl rfl rfl (v_extract rfl rfl) ?_
    refine x_val rfl rfl rfl (v_extract rfl rfl) ?_
    refine x_val rfl rfl rfl (v_assign rfl) ?_
    refine x_val rfl rfl rfl (v_assign rfl) ?_
    refine x_val rfl rfl rfl (v_assign rfl) ?_
    refine x_end ?_
    refine t_norm ?_
    refine w_seq ?_
    refine rg_text ?_
    refine x_val rfl rfl rfl (v_move rfl) ?_
    refine x_val rfl rfl rfl (v_move rfl) ?_
    refine x_val rfl rfl rfl (v_indexAddr Tryd.underlying26 sz3 rfl rfl (by omega) rfl) ?_
    refine x_val rfl rfl rfl (v_load Tryd.underlying3 rfl rfl (at_ownL (vs := [n, n.tmod 3000000, n.tmod 800000].map (Value.int .i64)) (.head _) (show ([n, n.tmod 3000000, n.tmod 800000].map (Value.int .i64))[0 + k * 1]? = some (Value.int .i64 x) from by rw [Nat.mul_one, Nat.zero_add, List.getElem?_map, hx]; rfl))) ?_
    refine x_callv rfl rfl rfl Tryd.func16 (by kernel_rfl) rfl (fun w1 hw1 => c16 _ w1 hx64) ?_
    refine x_val rfl rfl rfl (v_move rfl) ?_
    refine x_val rfl rfl rfl (v_extract rfl rfl) ?_
    refine x_val rfl rfl rfl (v_extract rfl rfl) ?_
    refine x_val rfl rfl rfl (v_extract rfl rfl) ?_
    refine x_val rfl rfl rfl (v_assign rfl) ?_
    refine x_val rfl rfl rfl (v_assign rfl) ?_
    refine x_val rfl rfl rfl (v_assign rfl) ?_
    refine x_end ?_
    refine t_norm ?_
    refine w_seq ?_
    refine w_seq ?_
    refine rg_draw 39 [(true, 0), (true, 1), (true, 2), (true, 3), (true, 4), (true, 5), (true, 6), (true, 7), (true, 8), (true, 9), (true, 10), (true, 11), (true, 12), (true, 13), (true, 14), (true, 15), (true, 16), (true, 17), (true, 18), (true, 19), (true, 20), (true, 21), (true, 22), (true, 23), (true, 24), (true, 25), (true, 26), (true, 27), (true, 28), (true, 29), (true, 30), (true, 31), (true, 32), (true, 33), (true, 34), (true, 35), (true, 36), (true, 37), (true, 38)] (by kernel_rfl) (by kernel_rfl) ?_
    refine x_val rfl rfl rfl (v_move rfl) ?_
    refine x_val rfl rfl rfl (v_move rfl) ?_
    refine x_bool rfl rfl rfl (v_neq rfl rfl) ?_
    intro b50 hb50
    refine x_val rfl rfl rfl (v_move rfl) ?_
    refine x_if [] rfl rfl rfl rfl rfl (fun hg => by obtain ⟨hg0, _⟩ := hg; subst hg0; (try simp only [List.cons_append, List.nil_append, gvl_nil, gvl_t, gvl_f]); exact v_move rfl) ?_
    refine x_if [] rfl rfl rfl rfl rfl (fun hg => by obtain ⟨hg0, _⟩ := hg; subst hg0; (try simp only [List.cons_append, List.nil_append, gvl_nil, gvl_t, gvl_f]); exact v_move rfl) ?_
    refine x_ifb [] rfl rfl rfl rfl rfl (fun hg => by obtain ⟨hg0, _⟩ := hg; subst hg0; (try simp only [List.cons_append, List.nil_append, gvl_nil, gvl_t, gvl_f]); exact v_neq rfl rfl) ?_
    intro b54 hb54
    refine x_bool rfl rfl rfl (v_or rfl rfl) ?_
    intro b55 hb55
    refine x_val rfl rfl rfl (v_move rfl) ?_
    refine x_if [] rfl rfl rfl rfl rfl (fun hg => by obtain ⟨hg0, _⟩ := hg; subst hg0; (try simp only [List.cons_append, List.nil_append, gvl_nil, gvl_t, gvl_f]); exact v_move rfl) ?_
    refine x_if [] rfl rfl rfl rfl rfl (fun hg => by obtain ⟨hg0, _⟩ := hg; subst hg0; (try simp only [List.cons_append, List.nil_append, gvl_nil, gvl_t, gvl_f]); exact v_move rfl) ?_
    refine x_ifb [] rfl rfl rfl rfl rfl (fun hg => by obtain ⟨hg0, _⟩ := hg; subst hg0; (try simp only [List.cons_append, List.nil_append, gvl_nil, gvl_t, gvl_f]); exact v_neq rfl rfl) ?_
    intro b59 hb59
    refine x_bool rfl rfl rfl (v_or rfl rfl) ?_
    intro b60 hb60
    refine x_val rfl rfl rfl (v_move rfl) ?_
    refine x_if [] rfl rfl rfl rfl rfl (fun hg => by obtain ⟨hg0, _⟩ := hg; subst hg0; (try simp only [List.cons_append, List.nil_append, gvl_nil, gvl_t, gvl_f]); exact v_move rfl) ?_
    refine x_if [] rfl rfl rfl rfl rfl (fun hg => by obtain ⟨hg0, _⟩ := hg; subst hg0; (try simp only [List.cons_append, List.nil_append, gvl_nil, gvl_t, gvl_f]); exact v_move rfl) ?_
    refine x_if [] rfl rfl rfl rfl rfl (fun hg => by obtain ⟨hg0, _⟩ := hg; subst hg0; (try simp only [List.cons_append, List.nil_append, gvl_nil, gvl_t, gvl_f]); exact v_indexAddr Tryd.underlying26 sz3 rfl rfl (by omega) rfl) ?_
    refine x_if [] rfl rfl rfl rfl rfl (fun hg => by obtain ⟨hg0, _⟩ := hg; subst hg0; (try simp only [List.cons_append, List.nil_append, gvl_nil, gvl_t, gvl_f]); exact v_load Tryd.underlying3 rfl rfl (at_ownL (vs := [n, n.tmod 3000000, n.tmod 800000].map (Value.int .i64)) (.head _) (show ([n, n.tmod 3000000, n.tmod 800000].map (Value.int .i64))[0 + k * 1]? = some (Value.int .i64 x) from by rw [Nat.mul_one, Nat.zero_add, List.getElem?_map, hx]; rfl))) ?_
    refine x_call_if [] rfl rfl rfl rfl rfl Tryd.func17 (by kernel_rfl) (fun hg => by obtain ⟨hg0, _⟩ := hg; subst hg0; (try simp only [List.cons_append, List.nil_append, gvl_nil, gvl_t, gvl_f]); refine ⟨_, rfl, ?_⟩; exact fun w1 hw1 => c17 _ w1) ?_
    refine x_if [] rfl rfl rfl rfl rfl (fun hg => by obtain ⟨hg0, _⟩ := hg; subst hg0; (try simp only [List.cons_append, List.nil_append, gvl_nil, gvl_t, gvl_f]); exact v_move rfl) ?_
    refine x_if [] rfl rfl rfl rfl rfl (fun hg => by obtain ⟨hg0, _⟩ := hg; subst hg0; (try simp only [List.cons_append, List.nil_append, gvl_nil, gvl_t, gvl_f]); exact v_move rfl) ?_
    refine x_if [] rfl rfl rfl rfl rfl (fun hg => by obtain ⟨hg0, _⟩ := hg; subst hg0; (try simp only [List.cons_append, List.nil_append, gvl_nil, gvl_t, gvl_f]); exact v_indexAddr Tryd.underlying26 sz3 rfl rfl (by omega) rfl) ?_
    refine x_if [] rfl rfl rfl rfl rfl (fun hg => by obtain ⟨hg0, _⟩ := hg; subst hg0; (try simp only [List.cons_append, List.nil_append, gvl_nil, gvl_t, gvl_f]); exact v_load Tryd.underlying3 rfl rfl (at_ownL (vs := [n, n.tmod 3000000, n.tmod 800000].map (Value.int .i64)) (.head _) (show ([n, n.tmod 3000000, n.tmod 800000].map (Value.int .i64))[0 + k * 1]? = some (Value.int .i64 x) from by rw [Nat.mul_one, Nat.zero_add, List.getElem?_map, hx]; rfl))) ?_
    refine x_call_if [] rfl rfl rfl rfl rfl Tryd.func18 (by kernel_rfl) (fun hg => by obtain ⟨hg0, _⟩ := hg; subst hg0; (try simp only [List.cons_append, List.nil_append, gvl_nil, gvl_t, gvl_f]); refine ⟨_, rfl, ?_⟩; exact fun w1 hw1 => c18 _ w1) ?_
    refine x_ifb [] rfl rfl rfl rfl rfl (fun hg => by obtain ⟨hg0, _⟩ := hg; subst hg0; (try simp only [List.cons_append, List.nil_append, gvl_nil, gvl_t, gvl_f]); exact v_neq rfl rfl) ?_
    intro b72 hb72
    refine x_bool rfl rfl rfl (v_or rfl rfl) ?_
    intro b73 hb73
    refine x_val rfl rfl rfl (v_move rfl) ?_
    refine x_if [] rfl rfl rfl rfl rfl (fun hg => by obtain ⟨hg0, _⟩ := hg; subst hg0; (try simp only [List.cons_append, List.nil_append, gvl_nil, gvl_t, gvl_f]); exact v_move rfl) ?_
    refine x_if [] rfl rfl rfl rfl rfl (fun hg => by obtain ⟨hg0, _⟩ := hg; subst hg0; (try simp only [List.cons_append, List.nil_append, gvl_nil, gvl_t, gvl_f]); exact v_move rfl) ?_
    refine x_if [] rfl rfl rfl rfl rfl (fun hg => by obtain ⟨hg0, _⟩ := hg; subst hg0; (try simp only [List.cons_append, List.nil_append, gvl_nil, gvl_t, gvl_f]); exact v_indexAddr Tryd.underlying26 sz3 rfl rfl (by omega) rfl) ?_
    refine x_if [] rfl rfl rfl rfl rfl (fun hg => by obtain ⟨hg0, _⟩ := hg; subst hg0; (try simp only [List.cons_append, List.nil_append, gvl_nil, gvl_t, gvl_f]); exact v_load Tryd.underlying3 rfl rfl (at_ownL (vs := [n, n.tmod 3000000, n.tmod 800000].map (Value.int .i64)) (.head _) (show ([n, n.tmod 3000000, n.tmod 800000].map (Value.int .i64))[0 + k * 1]? = some (Value.int .i64 x) from by rw [Nat.mul_one, Nat.zero_add, List.getElem?_map, hx]; rfl))) ?_
    refine x_call_if [] rfl rfl rfl rfl rfl Tryd.func19 (by kernel_rfl) (fun hg => by obtain ⟨hg0, _⟩ := hg; subst hg0; (try simp only [List.cons_append, List.nil_append, gvl_nil, gvl_t, gvl_f]); refine ⟨_, rfl, ?_⟩; exact fun w1 hw1 => c19 _ w1 hx64 (hL.later (hw1.base (by simp)))) ?_
    refine x_if [] rfl rfl rfl rfl rfl (fun hg => by obtain ⟨hg0, _⟩ := hg; subst hg0; (try simp only [List.cons_append, List.nil_append, gvl_nil, gvl_t, gvl_f]); exact v_move rfl) ?_
    refine x_if [] rfl rfl rfl rfl rfl (fun hg => by obtain ⟨hg0, _⟩ := hg; subst hg0; (try simp only [List.cons_append, List.nil_append, gvl_nil, gvl_t, gvl_f]); exact v_move rfl) ?_
    refine x_if [] rfl rfl rfl rfl rfl (fun hg => by obtain ⟨hg0, _⟩ := hg; subst hg0; (try simp only [List.cons_append, List.nil_append, gvl_nil, gvl_t, gvl_f]); exact v_indexAddr Tryd.underlying26 sz3 rfl rfl (by omega) rfl) ?_
    refine x_if [] rfl rfl rfl rfl rfl (fun hg => by obtain ⟨hg0, _⟩ := hg; subst hg0; (try simp only [List.cons_append, List.nil_append, gvl_nil, gvl_t, gvl_f]); exact v_load Tryd.underlying3 rfl rfl (at_ownL (vs := [n, n.tmod 3000000, n.tmod 800000].map (Value.int .i64)) (.head _) (show ([n, n.tmod 3000000, n.tmod 800000].map (Value.int .i64))[0 + k * 1]? = some (Value.int .i64 x) from by rw [Nat.mul_one, Nat.zero_add, List.getElem?_map, hx]; rfl))) ?_
    refine x_call_if [] rfl rfl rfl rfl rfl Tryd.func20 (by kernel_rfl) (fun hg => by obtain ⟨hg0, _⟩ := hg; subst hg0; (try simp only [List.cons_append, List.nil_append, gvl_nil, gvl_t, gvl_f]); refine ⟨_, rfl, ?_⟩; exact fun w1 hw1 => c20 _ w1 hx64) ?_
    refine x_ifb [] rfl rfl rfl rfl rfl (fun hg => by obtain ⟨hg0, _⟩ := hg; subst hg0; (try simp only [List.cons_append, List.nil_append, gvl_nil, gvl_t, gvl_f]); exact v_sneq rfl rfl) ?_
    intro b85 hb85
    refine x_bool rfl rfl rfl (v_or rfl rfl) ?_
    intro b86 hb86
    refine x_end ?_
    refine t_norm ?_
    refine w_cond rfl (fun hc86 => ?_) (fun hc86 => ?_)
    · exfalso
      rw [hb86, hb85, hb73, hb72, hb60, hb59, hb55, hb54, hb50] at hc86
      revert hc86; simp
    · skip
      refine w_skip ?_
      refine t_norm ?_
      refine w_seq ?_
      refine rg_text ?_
      refine x_val rfl rfl rfl (v_move rfl) ?_
      refine x_val rfl rfl rfl (v_move rfl) ?_
      refine x_val rfl rfl rfl (v_move rfl) ?_
      refine x_callv rfl rfl rfl Tryd.func13 (by kernel_rfl) rfl (fun w1 hw1 => c13 _ _ _ w1 (civ_in x)) ?_
      refine x_val rfl rfl rfl (v_move rfl) ?_
      refine x_val rfl rfl rfl (v_extract rfl rfl) ?_
      refine x_bool rfl rfl rfl (v_extract rfl rfl) ?_
      intro b93 hb93
      refine x_val rfl rfl rfl (v_assign rfl) ?_
      refine x_val rfl rfl rfl (v_assign rfl) ?_
      refine x_end ?_
      refine t_norm ?_
      refine w_seq ?_
      refine rg_text ?_
      refine x_val rfl rfl rfl (v_move rfl) ?_
      refine x_val rfl rfl rfl (v_move rfl) ?_
      refine x_val rfl rfl rfl (v_indexAddr Tryd.underlying26 sz3 rfl rfl (by omega) rfl) ?_
      refine x_val rfl rfl rfl (v_load Tryd.underlying3 rfl rfl (at_ownL (vs := [n, n.tmod 3000000, n.tmod 800000].map (Value.int .i64)) (.head _) (show ([n, n.tmod 3000000, n.tmod 800000].map (Value.int .i64))[0 + k * 1]? = some (Value.int .i64 x) from by rw [Nat.mul_one, Nat.zero_add, List.getElem?_map, hx]; rfl))) ?_
      refine x_callv rfl rfl rfl Tryd.func19 (by kernel_rfl) rfl (fun w1 hw1 => c19 _ w1 hx64 (hL.later (hw1.base (by simp)))) ?_
      refine x_callv rfl rfl rfl Tryd.func21 (by kernel_rfl) rfl (fun w1 hw1 => c21 _ w1 (textR_ok x) (hL.later (hw1.base (by simp)))) ?_
      refine x_val rfl rfl rfl (v_move rfl) ?_
      refine x_val rfl rfl rfl (v_extract rfl rfl) ?_
      refine x_val rfl rfl rfl (v_extract rfl rfl) ?_
      refine x_val rfl rfl rfl (v_assign rfl) ?_
      refine x_val rfl rfl rfl (v_assign rfl) ?_
      refine x_end ?_
      refine t_norm ?_
      refine w_seq ?_
      refine rg_text ?_
      refine x_val rfl rfl rfl (v_move rfl) ?_
      refine x_val rfl rfl rfl (v_move rfl) ?_
      refine x_val rfl rfl rfl (v_indexAddr Tryd.underlying26 sz3 rfl rfl (by omega) rfl) ?_
      refine x_val rfl rfl rfl (v_load Tryd.underlying3 rfl rfl (at_ownL (vs := [n, n.tmod 3000000, n.tmod 800000].map (Value.int .i64)) (.head _) (show ([n, n.tmod 3000000, n.tmod 800000].map (Value.int .i64))[0 + k * 1]? = some (Value.int .i64 x) from by rw [Nat.mul_one, Nat.zero_add, List.getElem?_map, hx]; rfl))) ?_
      refine x_bool rfl rfl rfl (v_geq rfl rfl) ?_
      intro b107 hb107
      refine x_val rfl rfl rfl (v_move rfl) ?_
      refine x_if [] rfl rfl rfl rfl rfl (fun hg => by obtain ⟨hg0, _⟩ := hg; subst hg0; (try simp only [List.cons_append, List.nil_append, gvl_nil, gvl_t, gvl_f]); exact v_move rfl) ?_
      refine x_if [] rfl rfl rfl rfl rfl (fun hg => by obtain ⟨hg0, _⟩ := hg; subst hg0; (try simp only [List.cons_append, List.nil_append, gvl_nil, gvl_t, gvl_f]); exact v_move rfl) ?_
      refine x_if [] rfl rfl rfl rfl rfl (fun hg => by obtain ⟨hg0, _⟩ := hg; subst hg0; (try simp only [List.cons_append, List.nil_append, gvl_nil, gvl_t, gvl_f]); exact v_indexAddr Tryd.underlying26 sz3 rfl rfl (by omega) rfl) ?_
      refine x_if [] rfl rfl rfl rfl rfl (fun hg => by obtain ⟨hg0, _⟩ := hg; subst hg0; (try simp only [List.cons_append, List.nil_append, gvl_nil, gvl_t, gvl_f]); exact v_load Tryd.underlying3 rfl rfl (at_ownL (vs := [n, n.tmod 3000000, n.tmod 800000].map (Value.int .i64)) (.head _) (show ([n, n.tmod 3000000, n.tmod 800000].map (Value.int .i64))[0 + k * 1]? = some (Value.int .i64 x) from by rw [Nat.mul_one, Nat.zero_add, List.getElem?_map, hx]; rfl))) ?_
      refine x_ifb [] rfl rfl rfl rfl rfl (fun hg => by obtain ⟨hg0, _⟩ := hg; subst hg0; (try simp only [List.cons_append, List.nil_append, gvl_nil, gvl_t, gvl_f]); exact v_leq rfl rfl) ?_
      intro b113 hb113
      refine x_bool rfl rfl rfl (v_and rfl rfl) ?_
      intro b114 hb114
      refine x_val rfl rfl rfl (v_assign rfl) ?_
      refine x_end ?_
      refine t_norm ?_
      refine w_seq ?_
      refine rg_text ?_
      refine x_val rfl rfl rfl (v_move rfl) ?_
      refine x_val rfl rfl rfl (v_move rfl) ?_
      refine x_bool rfl rfl rfl (v_bneq rfl rfl Tryd.underlying4) ?_
      intro b117 hb117
      refine x_val rfl rfl rfl (v_move rfl) ?_
      refine x_if [] rfl rfl rfl rfl rfl (fun hg => by obtain ⟨hg0, _⟩ := hg; subst hg0; (try simp only [List.cons_append, List.nil_append, gvl_nil, gvl_t, gvl_f]); exact v_move rfl) ?_
      refine x_if [] rfl rfl rfl rfl rfl (fun hg => by obtain ⟨hg0, _⟩ := hg; subst hg0; (try simp only [List.cons_append, List.nil_append, gvl_nil, gvl_t, gvl_f]); exact v_move rfl) ?_
      refine x_if [(b117, false)] rfl rfl rfl rfl rfl (fun hg => by obtain ⟨hg0, hg1, _⟩ := hg; subst hg0; subst hg1; (try simp only [List.cons_append, List.nil_append, gvl_nil, gvl_t, gvl_f]); exact v_move rfl) ?_
      refine x_if [(b117, false)] rfl rfl rfl rfl rfl (fun hg => by obtain ⟨hg0, hg1, _⟩ := hg; subst hg0; subst hg1; (try simp only [List.cons_append, List.nil_append, gvl_nil, gvl_t, gvl_f]); exact v_move rfl) ?_
      refine x_if [(b117, false)] rfl rfl rfl rfl rfl (fun hg => by obtain ⟨hg0, hg1, _⟩ := hg; subst hg0; subst hg1; (try simp only [List.cons_append, List.nil_append, gvl_nil, gvl_t, gvl_f]); exact v_move rfl) ?_
      refine x_if [(b117, false)] rfl rfl rfl rfl rfl (fun hg => by obtain ⟨hg0, hg1, _⟩ := hg; subst hg0; subst hg1; (try simp only [List.cons_append, List.nil_append, gvl_nil, gvl_t, gvl_f]); exact v_indexAddr Tryd.underlying26 sz3 rfl rfl (by omega) rfl) ?_
      refine x_if [(b117, false)] rfl rfl rfl rfl rfl (fun hg => by obtain ⟨hg0, hg1, _⟩ := hg; subst hg0; subst hg1; (try simp only [List.cons_append, List.nil_append, gvl_nil, gvl_t, gvl_f]); exact v_load Tryd.underlying3 rfl rfl (at_ownL (vs := [n, n.tmod 3000000, n.tmod 800000].map (Value.int .i64)) (.head _) (show ([n, n.tmod 3000000, n.tmod 800000].map (Value.int .i64))[0 + k * 1]? = some (Value.int .i64 x) from by rw [Nat.mul_one, Nat.zero_add, List.getElem?_map, hx]; rfl))) ?_
      refine x_ifb [(b117, false)] rfl rfl rfl rfl rfl (fun hg => by obtain ⟨hg0, hg1, _⟩ := hg; subst hg0; subst hg1; (try simp only [List.cons_append, List.nil_append, gvl_nil, gvl_t, gvl_f]); exact v_neq rfl rfl) ?_
      intro b126 hb126
      refine x_if [(b117, false)] rfl rfl rfl rfl rfl (fun hg => by obtain ⟨hg0, hg1, _⟩ := hg; subst hg0; subst hg1; (try simp only [List.cons_append, List.nil_append, gvl_nil, gvl_t, gvl_f]); exact v_move rfl) ?_
      refine x_if [(b117, false), (b114, true)] rfl rfl rfl rfl rfl (fun hg => by obtain ⟨hg0, hg1, hg2, _⟩ := hg; subst hg0; subst hg1; subst hg2; (try simp only [List.cons_append, List.nil_append, gvl_nil, gvl_t, gvl_f]); exact v_move rfl) ?_
      refine x_ifb [(b117, false), (b114, true)] rfl rfl rfl rfl rfl (fun hg => by obtain ⟨hg0, hg1, hg2, _⟩ := hg; subst hg0; subst hg1; subst hg2; (try simp only [List.cons_append, List.nil_append, gvl_nil, gvl_t, gvl_f]); exact v_neq rfl rfl) ?_
      intro b129 hb129
      refine x_ifb [(b117, false)] rfl rfl rfl rfl rfl (fun hg => by obtain ⟨hg0, hg1, _⟩ := hg; subst hg0; subst hg1; (try simp only [List.cons_append, List.nil_append, gvl_nil, gvl_t, gvl_f]); exact v_or rfl rfl) ?_
      intro b130 hb130
      refine x_if [(b117, false)] rfl rfl rfl rfl rfl (fun hg => by obtain ⟨hg0, hg1, _⟩ := hg; subst hg0; subst hg1; (try simp only [List.cons_append, List.nil_append, gvl_nil, gvl_t, gvl_f]); exact v_move rfl) ?_
      refine x_if [(b117, false), (b114, true)] rfl rfl rfl rfl rfl (fun hg => by obtain ⟨hg0, hg1, hg2, _⟩ := hg; subst hg0; subst hg1; subst hg2; (try simp only [List.cons_append, List.nil_append, gvl_nil, gvl_t, gvl_f]); exact v_move rfl) ?_
      refine x_if [(b117, false), (b114, true)] rfl rfl rfl rfl rfl (fun hg => by obtain ⟨hg0, hg1, hg2, _⟩ := hg; subst hg0; subst hg1; subst hg2; (try simp only [List.cons_append, List.nil_append, gvl_nil, gvl_t, gvl_f]); exact v_move rfl) ?_
      refine x_if [(b117, false), (b114, true)] rfl rfl rfl rfl rfl (fun hg => by obtain ⟨hg0, hg1, hg2, _⟩ := hg; subst hg0; subst hg1; subst hg2; (try simp only [List.cons_append, List.nil_append, gvl_nil, gvl_t, gvl_f]); exact v_move rfl) ?_
      refine x_if [(b117, false), (b114, true)] rfl rfl rfl rfl rfl (fun hg => by obtain ⟨hg0, hg1, hg2, _⟩ := hg; subst hg0; subst hg1; subst hg2; (try simp only [List.cons_append, List.nil_append, gvl_nil, gvl_t, gvl_f]); exact v_indexAddr Tryd.underlying26 sz3 rfl rfl (by omega) rfl) ?_
      refine x_if [(b117, false), (b114, true)] rfl rfl rfl rfl rfl (fun hg => by obtain ⟨hg0, hg1, hg2, _⟩ := hg; subst hg0; subst hg1; subst hg2; (try simp only [List.cons_append, List.nil_append, gvl_nil, gvl_t, gvl_f]); exact v_load Tryd.underlying3 rfl rfl (at_ownL (vs := [n, n.tmod 3000000, n.tmod 800000].map (Value.int .i64)) (.head _) (show ([n, n.tmod 3000000, n.tmod 800000].map (Value.int .i64))[0 + k * 1]? = some (Value.int .i64 x) from by rw [Nat.mul_one, Nat.zero_add, List.getElem?_map, hx]; rfl))) ?_
      refine x_ifb [(b117, false), (b114, true)] rfl rfl rfl rfl rfl (fun hg => by obtain ⟨hg0, hg1, hg2, _⟩ := hg; subst hg0; subst hg1; subst hg2; (try simp only [List.cons_append, List.nil_append, gvl_nil, gvl_t, gvl_f]); exact v_neq rfl rfl) ?_
      intro b137 hb137
      refine x_ifb [(b117, false)] rfl rfl rfl rfl rfl (fun hg => by obtain ⟨hg0, hg1, _⟩ := hg; subst hg0; subst hg1; (try simp only [List.cons_append, List.nil_append, gvl_nil, gvl_t, gvl_f]); exact v_or rfl rfl) ?_
      intro b138 hb138
      refine x_ifb [] rfl rfl rfl rfl rfl (fun hg => by obtain ⟨hg0, _⟩ := hg; subst hg0; (try simp only [List.cons_append, List.nil_append, gvl_nil, gvl_t, gvl_f]); exact v_and rfl rfl) ?_
      intro b139 hb139
      refine x_bool rfl rfl rfl (v_or rfl rfl) ?_
      intro b140 hb140
      refine x_val rfl rfl rfl (v_move rfl) ?_
      refine x_if [] rfl rfl rfl rfl rfl (fun hg => by obtain ⟨hg0, _⟩ := hg; subst hg0; (try simp only [List.cons_append, List.nil_append, gvl_nil, gvl_t, gvl_f]); exact v_move rfl) ?_
      refine x_ifb [] rfl rfl rfl rfl rfl (fun hg => by obtain ⟨hg0, _⟩ := hg; subst hg0; (try simp only [List.cons_append, List.nil_append, gvl_nil, gvl_t, gvl_f]); exact v_not rfl) ?_
      intro b143 hb143
      refine x_if [] rfl rfl rfl rfl rfl (fun hg => by obtain ⟨hg0, _⟩ := hg; subst hg0; (try simp only [List.cons_append, List.nil_append, gvl_nil, gvl_t, gvl_f]); exact v_move rfl) ?_
      refine x_if [(b140, false)] rfl rfl rfl rfl rfl (fun hg => by obtain ⟨hg0, hg1, _⟩ := hg; subst hg0; subst hg1; (try simp only [List.cons_append, List.nil_append, gvl_nil, gvl_t, gvl_f]); exact v_move rfl) ?_
      refine x_ifb [(b140, false)] rfl rfl rfl rfl rfl (fun hg => by obtain ⟨hg0, hg1, _⟩ := hg; subst hg0; subst hg1; (try simp only [List.cons_append, List.nil_append, gvl_nil, gvl_t, gvl_f]); exact v_neq rfl rfl) ?_
      intro b146 hb146
      refine x_ifb [] rfl rfl rfl rfl rfl (fun hg => by obtain ⟨hg0, _⟩ := hg; subst hg0; (try simp only [List.cons_append, List.nil_append, gvl_nil, gvl_t, gvl_f]); exact v_and rfl rfl) ?_
      intro b147 hb147
      refine x_bool rfl rfl rfl (v_or rfl rfl) ?_
      intro b148 hb148
      refine x_end ?_
      refine t_norm ?_
      refine w_cond rfl (fun hc148 => ?_) (fun hc148 => ?_)
      · exfalso
        by_cases ho : okDay x
        · have h1 := civ_valid ho
          have h2 := readC_back ho
          obtain ⟨o1, o2⟩ := id ho
          rw [hb148, hb147, hb146, hb143, hb140, hb139, hb138, hb137, hb130, hb129, hb126, hb117, hb114, hb113, hb107, hb93, h2, h1.2, decide_eq_true h1.1, decide_eq_true (show x ≥ -719162 from o1), decide_eq_true o2] at hc148
          revert hc148; simp
        · have h1 := civ_invalid ho
          have h2 := readC_none ho
          have h3 : (decide (x ≥ -719162) && decide (x ≤ 2932896)) = false := by rw [← Bool.decide_and]; exact decide_eq_false ho
          rw [hb148, hb147, hb146, hb143, hb140, hb139, hb138, hb137, hb130, hb129, hb126, hb117, hb114, hb113, hb107, hb93, h2, h3, decide_eq_false h1] at hc148
          revert hc148; simp
      · skip
        refine w_skip ?_
        refine b_norm ?_
        refine t_norm ?_
        refine rg_text ?_
        refine x_val rfl rfl rfl (v_move rfl) ?_
        refine x_val rfl rfl rfl (v_addi rfl rfl rfl (by first | omega | (dsimp only; omega))) ?_
        refine x_val rfl rfl rfl (v_assign rfl) ?_
        refine x_end ?_
        exact l_norm (k + 1) (show k + 1 ≤ 3 by omega) (by omega) (by repeat (first | exact Sub.nil | refine Sub.cons rfl ?_)) (fun _ h => h)
  · simp only [hb27, decide_eq_true_eq, decide_eq_false_iff_not, Bool.and_eq_true, Bool.or_eq_true, Bool.and_eq_false_iff, Bool.or_eq_false_iff, Bool.not_eq_true', Bool.not_eq_false', ne_eq, Decidable.not_not] at hc27
    refine w_exit ?_
    refine t_exit ?_
    refine t_exit ?_
    refine b_hit ?_
    refine t_norm ?_
    refine w_seq ?_
    refine rg_text ?_
    refine x_val rfl rfl rfl (v_move rfl) ?_
    refine x_val rfl rfl rfl (v_assign rfl) ?_
    refine x_end ?_
    refine t_norm ?_
    refine w_ret ?_
    refine ret1 rfl rfl (fun w' hm => ⟨?_, hm.base (by simp)⟩)
    rfl

end Go.Proofs.YtffdbbcmibamjaaDoor

namespace Go.Proofs.YtffdbbcmibamjaaDoor
open Go.RowKit Go.PK
set_option linter.unusedVariables false
set_option linter.unusedSimpArgs false

theorem leap400 (y : Int) : leapP (y + 400) = leapP y := by
  rw [Bool.eq_iff_iff, leap_iff, leap_iff]; omega
theorem mlen400 (y m : Int) : mlen (y + 400) m = mlen y m := by unfold mlen; rw [leap400]
theorem moff400 (y : Int) : ∀ k, moff (y + 400) k = moff y k
  | 0 => rfl
  | k + 1 => by simp only [moff]; rw [moff400 y k, mlen400]
theorem NY400 (y : Int) : NY (y + 400) = NY y + 146097 := by unfold NY; omega
theorem civ_later400 {n y d : Int} {m : Nat} (h : Civ n y m d) : Civ (n + 146097) (y + 400) m d :=
  ⟨by have := h.y1; omega, h.m1, h.m2, h.d1, by rw [mlen400]; exact h.d2, by have := h.is; unfold dayN at this ⊢; rw [NY400, moff400]; omega⟩
theorem civ_400 {n : Int} (h : okDay n) (h' : okDay (n + 146097)) : civ (n + 146097) = ((civ n).1 + 400, (civ n).2.1, (civ n).2.2) := civ_eq h' (civ_later400 (civ_is h))
theorem civ_next {n : Int} (h : okDay n) (h' : okDay (n + 1)) :
    civ (n + 1) = ((civ n).1, (civ n).2.1, (civ n).2.2 + 1) ∨ (28 ≤ (civ n).2.2 ∧ civ (n + 1) = ((civ n).1, (civ n).2.1 + 1, 1)) ∨ ((civ n).2.1 = 12 ∧ (civ n).2.2 = 31 ∧ civ (n + 1) = ((civ n).1 + 1, 1, 1)) := by
  have hc := civ_is h
  have hl := mlen_rng (civ n).1 ((civ n).2.1 : Int)
  have hp := moff_pred (civ n).1 hc.m1
  have hi := hc.is
  unfold dayN at hi
  by_cases hd : (civ n).2.2 < mlen (civ n).1 (civ n).2.1
  · exact .inl (civ_eq h' ⟨hc.y1, hc.m1, hc.m2, by have := hc.d1; omega, by omega, by unfold dayN; omega⟩)
  · have hd2 := hc.d2
    by_cases hm : (civ n).2.1 < 12
    · refine .inr (.inl ⟨by omega, civ_eq h' ⟨hc.y1, by omega, by omega, by decide, ?_, ?_⟩⟩)
      · have := mlen_rng (civ n).1 (((civ n).2.1 + 1 : Nat) : Int); omega
      · unfold dayN; rw [Nat.add_sub_cancel]; omega
    · have hm12 : (civ n).2.1 = 12 := by have := hc.m2; omega
      have h31 : mlen (civ n).1 ((civ n).2.1 : Int) = 31 := by rw [hm12]; rfl
      have hny := NY_next (civ n).1
      rw [← hm12, hp] at hny
      refine .inr (.inr ⟨hm12, by omega, civ_eq h' ⟨by have := hc.y1; omega, by decide, by decide, by decide, ?_, ?_⟩⟩)
      · have := mlen_rng ((civ n).1 + 1) ((1 : Nat) : Int); omega
      · unfold dayN; have : moff ((civ n).1 + 1) (1 - 1) = 0 := rfl; omega
set_option maxRecDepth 100000 in
theorem c5 (n : Int) (w : World) (hn : in64 n) (hL : LD w) :
    Calls Tryd.prog 5 #[.int .i64 n] w fun e w' => e = .returned (.bool true) ∧ Later w w' := by
  obtain ⟨N, hN⟩ : ∃ N, N = n.tmod 2700000 := ⟨_, rfl⟩
  have hNr := tmod_bd n 2700000 (by decide)
  rw [← hN] at hNr
  refine enter (vs := [.int .i64 n]) Tryd.func5 rfl Tryd.ntmps5 rfl ?_
  refine w_seq ?_
  refine rg_text ?_
  refine x_val rfl rfl rfl (v_assign rfl) ?_
  refine x_end ?_
  refine t_norm ?_
  refine w_seq ?_
  refine rg_text ?_
  refine x_callb rfl rfl rfl Tryd.func12 (by kernel_rfl) rfl (fun w1 hw1 => c12 w1 (hL.later (hw1.base (by simp)))) ?_
  intro b16 hb16
  obtain rfl : b16 = true := hb16
  refine x_val rfl rfl rfl (v_assign rfl) ?_
  refine x_end ?_
  refine t_norm ?_
  refine w_seq ?_
  refine rg_text ?_
  refine x_val rfl rfl rfl (v_move rfl) ?_
  refine x_val (v := Value.int .i64 N) rfl rfl rfl (by rw [hN]; exact v_rem rfl rfl (by decide)) ?_
  refine x_val rfl rfl rfl (v_assign rfl) ?_
  refine x_end ?_
  refine t_norm ?_
  refine w_seq ?_
  refine w_seq ?_
  refine rg_text ?_
  refine x_val rfl rfl rfl (v_move rfl) ?_
  refine x_bool rfl rfl rfl (v_lss rfl rfl) ?_
  intro b20 hb20
  refine x_end ?_
  refine t_norm ?_
  refine w_cond rfl (fun hc20 => ?_) (fun hc20 => ?_)
  · simp only [hb20, decide_eq_true_eq, decide_eq_false_iff_not, Bool.and_eq_true, Bool.or_eq_true, Bool.and_eq_false_iff, Bool.or_eq_false_iff, Bool.not_eq_true', Bool.not_eq_false', ne_eq, Decidable.not_not] at hc20
    refine w_seq ?_
    refine rg_text ?_
    refine x_val rfl rfl rfl (v_move rfl) ?_
    refine x_val rfl rfl rfl (v_assign rfl) ?_
    refine x_end ?_
    refine t_norm ?_
    refine w_ret ?_
    refine t_ret ?_
    refine ret1 rfl rfl (fun w' hm => ⟨?_, hm.base (by simp)⟩)
    rfl
  · simp only [hb20, decide_eq_true_eq, decide_eq_false_iff_not, Bool.and_eq_true, Bool.or_eq_true, Bool.and_eq_false_iff, Bool.or_eq_false_iff, Bool.not_eq_true', Bool.not_eq_false', ne_eq, Decidable.not_not] at hc20
    have ho : okDay N := ⟨by omega, by omega⟩
    have ho1 : okDay (N + 1) := ⟨by omega, by omega⟩
    have ho4 : okDay (N + 146097) := ⟨by omega, by omega⟩
    have hr := civ_rng ho
    refine w_skip ?_
    refine t_norm ?_
    refine w_seq ?_
    refine rg_text ?_
    refine x_val rfl rfl rfl (v_move rfl) ?_
    refine x_callv rfl rfl rfl Tryd.func15 (by kernel_rfl) rfl (fun w1 hw1 => c15 _ w1) ?_
    refine x_val rfl rfl rfl (v_move rfl) ?_
    refine x_val rfl rfl rfl (v_extract rfl rfl) ?_
    refine x_val rfl rfl rfl (v_extract rfl rfl) ?_
    refine x_val rfl rfl rfl (v_extract rfl rfl) ?_
    refine x_val rfl rfl rfl (v_assign rfl) ?_
    refine x_val rfl rfl rfl (v_assign rfl) ?_
    refine x_val rfl rfl rfl (v_assign rfl) ?_
    refine x_end ?_
    refine t_norm ?_
    refine w_seq ?_
    refine rg_text ?_
    refine x_val rfl rfl rfl (v_move rfl) ?_
    refine x_val rfl rfl rfl (v_addi rfl rfl rfl (by first | omega | (dsimp only; omega))) ?_
    refine x_callv rfl rfl rfl Tryd.func15 (by kernel_rfl) rfl (fun w1 hw1 => c15 _ w1) ?_
    refine x_val rfl rfl rfl (v_move rfl) ?_
    refine x_val rfl rfl rfl (v_extract rfl rfl) ?_
    refine x_val rfl rfl rfl (v_extract rfl rfl) ?_
    refine x_val rfl rfl rfl (v_extract rfl rfl) ?_
    refine x_val rfl rfl rfl (v_assign rfl) ?_
    refine x_val rfl rfl rfl (v_assign rfl) ?_
    refine x_val rfl rfl rfl (v_assign rfl) ?_
    refine x_end ?_
    refine t_norm ?_
    refine w_seq ?_
    refine rg_text ?_
    refine x_val rfl rfl rfl (v_move rfl) ?_
    refine x_val rfl rfl rfl (v_move rfl) ?_
    refine x_bool rfl rfl rfl (v_eql rfl rfl) ?_
    intro b37 hb37
    refine x_val rfl rfl rfl (v_move rfl) ?_
    refine x_if [] rfl rfl rfl rfl rfl (fun hg => by obtain ⟨hg0, _⟩ := hg; subst hg0; (try simp only [List.cons_append, List.nil_append, gvl_nil, gvl_t, gvl_f]); exact v_move rfl) ?_
    refine x_if [] rfl rfl rfl rfl rfl (fun hg => by obtain ⟨hg0, _⟩ := hg; subst hg0; (try simp only [List.cons_append, List.nil_append, gvl_nil, gvl_t, gvl_f]); exact v_move rfl) ?_
    refine x_ifb [] rfl rfl rfl rfl rfl (fun hg => by obtain ⟨hg0, _⟩ := hg; subst hg0; (try simp only [List.cons_append, List.nil_append, gvl_nil, gvl_t, gvl_f]); exact v_eql rfl rfl) ?_
    intro b41 hb41
    refine x_bool rfl rfl rfl (v_and rfl rfl) ?_
    intro b42 hb42
    refine x_val rfl rfl rfl (v_move rfl) ?_
    refine x_if [] rfl rfl rfl rfl rfl (fun hg => by obtain ⟨hg0, _⟩ := hg; subst hg0; (try simp only [List.cons_append, List.nil_append, gvl_nil, gvl_t, gvl_f]); exact v_move rfl) ?_
    refine x_if [] rfl rfl rfl rfl rfl (fun hg => by obtain ⟨hg0, _⟩ := hg; subst hg0; (try simp only [List.cons_append, List.nil_append, gvl_nil, gvl_t, gvl_f]); exact v_move rfl) ?_
    refine x_if [] rfl rfl rfl rfl rfl (fun hg => by obtain ⟨hg0, _⟩ := hg; subst hg0; (try simp only [List.cons_append, List.nil_append, gvl_nil, gvl_t, gvl_f]); exact v_addi rfl rfl rfl (by first | omega | (dsimp only; omega))) ?_
    refine x_ifb [] rfl rfl rfl rfl rfl (fun hg => by obtain ⟨hg0, _⟩ := hg; subst hg0; (try simp only [List.cons_append, List.nil_append, gvl_nil, gvl_t, gvl_f]); exact v_eql rfl rfl) ?_
    intro b47 hb47
    refine x_bool rfl rfl rfl (v_and rfl rfl) ?_
    intro b48 hb48
    refine x_val rfl rfl rfl (v_assign rfl) ?_
    refine x_end ?_
    refine t_norm ?_
    refine w_seq ?_
    refine rg_text ?_
    refine x_val rfl rfl rfl (v_move rfl) ?_
    refine x_val rfl rfl rfl (v_move rfl) ?_
    refine x_bool rfl rfl rfl (v_eql rfl rfl) ?_
    intro b51 hb51
    refine x_val rfl rfl rfl (v_move rfl) ?_
    refine x_if [] rfl rfl rfl rfl rfl (fun hg => by obtain ⟨hg0, _⟩ := hg; subst hg0; (try simp only [List.cons_append, List.nil_append, gvl_nil, gvl_t, gvl_f]); exact v_move rfl) ?_
    refine x_if [] rfl rfl rfl rfl rfl (fun hg => by obtain ⟨hg0, _⟩ := hg; subst hg0; (try simp only [List.cons_append, List.nil_append, gvl_nil, gvl_t, gvl_f]); exact v_move rfl) ?_
    refine x_if [] rfl rfl rfl rfl rfl (fun hg => by obtain ⟨hg0, _⟩ := hg; subst hg0; (try simp only [List.cons_append, List.nil_append, gvl_nil, gvl_t, gvl_f]); exact v_addi rfl rfl rfl (by first | omega | (dsimp only; omega))) ?_
    refine x_ifb [] rfl rfl rfl rfl rfl (fun hg => by obtain ⟨hg0, _⟩ := hg; subst hg0; (try simp only [List.cons_append, List.nil_append, gvl_nil, gvl_t, gvl_f]); exact v_eql rfl rfl) ?_
    intro b56 hb56
    refine x_bool rfl rfl rfl (v_and rfl rfl) ?_
    intro b57 hb57
    refine x_val rfl rfl rfl (v_move rfl) ?_
    refine x_if [] rfl rfl rfl rfl rfl (fun hg => by obtain ⟨hg0, _⟩ := hg; subst hg0; (try simp only [List.cons_append, List.nil_append, gvl_nil, gvl_t, gvl_f]); exact v_move rfl) ?_
    refine x_ifb [] rfl rfl rfl rfl rfl (fun hg => by obtain ⟨hg0, _⟩ := hg; subst hg0; (try simp only [List.cons_append, List.nil_append, gvl_nil, gvl_t, gvl_f]); exact v_eql rfl rfl) ?_
    intro b60 hb60
    refine x_bool rfl rfl rfl (v_and rfl rfl) ?_
    intro b61 hb61
    refine x_val rfl rfl rfl (v_move rfl) ?_
    refine x_if [] rfl rfl rfl rfl rfl (fun hg => by obtain ⟨hg0, _⟩ := hg; subst hg0; (try simp only [List.cons_append, List.nil_append, gvl_nil, gvl_t, gvl_f]); exact v_move rfl) ?_
    refine x_ifb [] rfl rfl rfl rfl rfl (fun hg => by obtain ⟨hg0, _⟩ := hg; subst hg0; (try simp only [List.cons_append, List.nil_append, gvl_nil, gvl_t, gvl_f]); exact v_geq rfl rfl) ?_
    intro b64 hb64
    refine x_bool rfl rfl rfl (v_and rfl rfl) ?_
    intro b65 hb65
    refine x_val rfl rfl rfl (v_assign rfl) ?_
    refine x_end ?_
    refine t_norm ?_
    refine w_seq ?_
    refine rg_text ?_
    refine x_val rfl rfl rfl (v_move rfl) ?_
    refine x_val rfl rfl rfl (v_move rfl) ?_
    refine x_val rfl rfl rfl (v_addi rfl rfl rfl (by first | omega | (dsimp only; omega))) ?_
    refine x_bool rfl rfl rfl (v_eql rfl rfl) ?_
    intro b69 hb69
    refine x_val rfl rfl rfl (v_move rfl) ?_
    refine x_if [] rfl rfl rfl rfl rfl (fun hg => by obtain ⟨hg0, _⟩ := hg; subst hg0; (try simp only [List.cons_append, List.nil_append, gvl_nil, gvl_t, gvl_f]); exact v_move rfl) ?_
    refine x_ifb [] rfl rfl rfl rfl rfl (fun hg => by obtain ⟨hg0, _⟩ := hg; subst hg0; (try simp only [List.cons_append, List.nil_append, gvl_nil, gvl_t, gvl_f]); exact v_eql rfl rfl) ?_
    intro b72 hb72
    refine x_bool rfl rfl rfl (v_and rfl rfl) ?_
    intro b73 hb73
    refine x_val rfl rfl rfl (v_move rfl) ?_
    refine x_if [] rfl rfl rfl rfl rfl (fun hg => by obtain ⟨hg0, _⟩ := hg; subst hg0; (try simp only [List.cons_append, List.nil_append, gvl_nil, gvl_t, gvl_f]); exact v_move rfl) ?_
    refine x_ifb [] rfl rfl rfl rfl rfl (fun hg => by obtain ⟨hg0, _⟩ := hg; subst hg0; (try simp only [List.cons_append, List.nil_append, gvl_nil, gvl_t, gvl_f]); exact v_eql rfl rfl) ?_
    intro b76 hb76
    refine x_bool rfl rfl rfl (v_and rfl rfl) ?_
    intro b77 hb77
    refine x_val rfl rfl rfl (v_move rfl) ?_
    refine x_if [] rfl rfl rfl rfl rfl (fun hg => by obtain ⟨hg0, _⟩ := hg; subst hg0; (try simp only [List.cons_append, List.nil_append, gvl_nil, gvl_t, gvl_f]); exact v_move rfl) ?_
    refine x_ifb [] rfl rfl rfl rfl rfl (fun hg => by obtain ⟨hg0, _⟩ := hg; subst hg0; (try simp only [List.cons_append, List.nil_append, gvl_nil, gvl_t, gvl_f]); exact v_eql rfl rfl) ?_
    intro b80 hb80
    refine x_bool rfl rfl rfl (v_and rfl rfl) ?_
    intro b81 hb81
    refine x_val rfl rfl rfl (v_move rfl) ?_
    refine x_if [] rfl rfl rfl rfl rfl (fun hg => by obtain ⟨hg0, _⟩ := hg; subst hg0; (try simp only [List.cons_append, List.nil_append, gvl_nil, gvl_t, gvl_f]); exact v_move rfl) ?_
    refine x_ifb [] rfl rfl rfl rfl rfl (fun hg => by obtain ⟨hg0, _⟩ := hg; subst hg0; (try simp only [List.cons_append, List.nil_append, gvl_nil, gvl_t, gvl_f]); exact v_eql rfl rfl) ?_
    intro b84 hb84
    refine x_bool rfl rfl rfl (v_and rfl rfl) ?_
    intro b85 hb85
    refine x_val rfl rfl rfl (v_assign rfl) ?_
    refine x_end ?_
    refine t_norm ?_
    refine w_seq ?_
    refine rg_text ?_
    refine x_val rfl rfl rfl (v_move rfl) ?_
    refine x_val rfl rfl rfl (v_addi rfl rfl rfl (by first | omega | (dsimp only; omega))) ?_
    refine x_callv rfl rfl rfl Tryd.func15 (by kernel_rfl) rfl (fun w1 hw1 => c15 _ w1) ?_
    refine x_val rfl rfl rfl (v_move rfl) ?_
    refine x_val rfl rfl rfl (v_extract rfl rfl) ?_
    refine x_val rfl rfl rfl (v_extract rfl rfl) ?_
    refine x_val rfl rfl rfl (v_extract rfl rfl) ?_
    refine x_val rfl rfl rfl (v_assign rfl) ?_
    refine x_val rfl rfl rfl (v_assign rfl) ?_
    refine x_val rfl rfl rfl (v_assign rfl) ?_
    refine x_end ?_
    refine t_norm ?_
    refine w_seq ?_
    refine rg_text ?_
    refine x_val rfl rfl rfl (v_move rfl) ?_
    refine x_val rfl rfl rfl (v_move rfl) ?_
    refine x_if [] rfl rfl rfl rfl rfl (fun hg => by obtain ⟨hg0, _⟩ := hg; (try simp only [List.cons_append, List.nil_append, gvl_nil, gvl_t, gvl_f]); exact v_move rfl) ?_
    refine x_if [] rfl rfl rfl rfl rfl (fun hg => by obtain ⟨hg0, _⟩ := hg; (try simp only [List.cons_append, List.nil_append, gvl_nil, gvl_t, gvl_f]); exact v_move rfl) ?_
    refine x_if [(true, true)] rfl rfl rfl rfl rfl (fun hg => by obtain ⟨hg0, hg1, _⟩ := hg; subst hg1; (try simp only [List.cons_append, List.nil_append, gvl_nil, gvl_t, gvl_f]); exact v_move rfl) ?_
    refine x_ifb [] rfl rfl rfl rfl rfl (fun hg => by obtain ⟨hg0, _⟩ := hg; (try simp only [List.cons_append, List.nil_append, gvl_nil, gvl_t, gvl_f]); exact v_or rfl rfl) ?_
    intro b98 hb98
    refine x_if [] rfl rfl rfl rfl rfl (fun hg => by obtain ⟨hg0, _⟩ := hg; (try simp only [List.cons_append, List.nil_append, gvl_nil, gvl_t, gvl_f]); exact v_move rfl) ?_
    refine x_if [(true, true)] rfl rfl rfl rfl rfl (fun hg => by obtain ⟨hg0, hg1, _⟩ := hg; subst hg1; (try simp only [List.cons_append, List.nil_append, gvl_nil, gvl_t, gvl_f]); exact v_move rfl) ?_
    refine x_ifb [] rfl rfl rfl rfl rfl (fun hg => by obtain ⟨hg0, _⟩ := hg; (try simp only [List.cons_append, List.nil_append, gvl_nil, gvl_t, gvl_f]); exact v_or rfl rfl) ?_
    intro b101 hb101
    refine x_bool rfl rfl rfl (v_and rfl rfl) ?_
    intro b102 hb102
    refine x_val rfl rfl rfl (v_move rfl) ?_
    refine x_if [] rfl rfl rfl rfl rfl (fun hg => by obtain ⟨hg0, _⟩ := hg; subst hg0; (try simp only [List.cons_append, List.nil_append, gvl_nil, gvl_t, gvl_f]); exact v_move rfl) ?_
    refine x_if [] rfl rfl rfl rfl rfl (fun hg => by obtain ⟨hg0, _⟩ := hg; subst hg0; (try simp only [List.cons_append, List.nil_append, gvl_nil, gvl_t, gvl_f]); exact v_addi rfl rfl rfl (by first | omega | (dsimp only; omega))) ?_
    refine x_call_if [] rfl rfl rfl rfl rfl Tryd.func17 (by kernel_rfl) (fun hg => by obtain ⟨hg0, _⟩ := hg; subst hg0; (try simp only [List.cons_append, List.nil_append, gvl_nil, gvl_t, gvl_f]); refine ⟨_, rfl, ?_⟩; exact fun w1 hw1 => c17 _ w1) ?_
    refine x_if [] rfl rfl rfl rfl rfl (fun hg => by obtain ⟨hg0, _⟩ := hg; subst hg0; (try simp only [List.cons_append, List.nil_append, gvl_nil, gvl_t, gvl_f]); exact v_move rfl) ?_
    refine x_call_if [] rfl rfl rfl rfl rfl Tryd.func17 (by kernel_rfl) (fun hg => by obtain ⟨hg0, _⟩ := hg; subst hg0; (try simp only [List.cons_append, List.nil_append, gvl_nil, gvl_t, gvl_f]); refine ⟨_, rfl, ?_⟩; exact fun w1 hw1 => c17 _ w1) ?_
    refine x_if [] rfl rfl rfl rfl rfl (fun hg => by obtain ⟨hg0, _⟩ := hg; subst hg0; (try simp only [List.cons_append, List.nil_append, gvl_nil, gvl_t, gvl_f]); exact v_addi rfl rfl rfl (by first | omega | (dsimp only; omega))) ?_
    refine x_if [] rfl rfl rfl rfl rfl (fun hg => by obtain ⟨hg0, _⟩ := hg; subst hg0; (try simp only [List.cons_append, List.nil_append, gvl_nil, gvl_t, gvl_f]); exact v_rem rfl rfl (by decide)) ?_
    refine x_ifb [] rfl rfl rfl rfl rfl (fun hg => by obtain ⟨hg0, _⟩ := hg; subst hg0; (try simp only [List.cons_append, List.nil_append, gvl_nil, gvl_t, gvl_f]); exact v_eql rfl rfl) ?_
    intro b111 hb111
    refine x_bool rfl rfl rfl (v_and rfl rfl) ?_
    intro b112 hb112
    refine x_val rfl rfl rfl (v_move rfl) ?_
    refine x_if [] rfl rfl rfl rfl rfl (fun hg => by obtain ⟨hg0, _⟩ := hg; subst hg0; (try simp only [List.cons_append, List.nil_append, gvl_nil, gvl_t, gvl_f]); exact v_move rfl) ?_
    refine x_if [] rfl rfl rfl rfl rfl (fun hg => by obtain ⟨hg0, _⟩ := hg; subst hg0; (try simp only [List.cons_append, List.nil_append, gvl_nil, gvl_t, gvl_f]); exact v_move rfl) ?_
    refine x_if [] rfl rfl rfl rfl rfl (fun hg => by obtain ⟨hg0, _⟩ := hg; subst hg0; (try simp only [List.cons_append, List.nil_append, gvl_nil, gvl_t, gvl_f]); exact v_addi rfl rfl rfl (by first | omega | (dsimp only; omega))) ?_
    refine x_ifb [] rfl rfl rfl rfl rfl (fun hg => by obtain ⟨hg0, _⟩ := hg; subst hg0; (try simp only [List.cons_append, List.nil_append, gvl_nil, gvl_t, gvl_f]); exact v_eql rfl rfl) ?_
    intro b117 hb117
    refine x_bool rfl rfl rfl (v_and rfl rfl) ?_
    intro b118 hb118
    refine x_val rfl rfl rfl (v_move rfl) ?_
    refine x_if [] rfl rfl rfl rfl rfl (fun hg => by obtain ⟨hg0, _⟩ := hg; subst hg0; (try simp only [List.cons_append, List.nil_append, gvl_nil, gvl_t, gvl_f]); exact v_move rfl) ?_
    refine x_if [] rfl rfl rfl rfl rfl (fun hg => by obtain ⟨hg0, _⟩ := hg; subst hg0; (try simp only [List.cons_append, List.nil_append, gvl_nil, gvl_t, gvl_f]); exact v_move rfl) ?_
    refine x_ifb [] rfl rfl rfl rfl rfl (fun hg => by obtain ⟨hg0, _⟩ := hg; subst hg0; (try simp only [List.cons_append, List.nil_append, gvl_nil, gvl_t, gvl_f]); exact v_eql rfl rfl) ?_
    intro b122 hb122
    refine x_bool rfl rfl rfl (v_and rfl rfl) ?_
    intro b123 hb123
    refine x_val rfl rfl rfl (v_move rfl) ?_
    refine x_if [] rfl rfl rfl rfl rfl (fun hg => by obtain ⟨hg0, _⟩ := hg; subst hg0; (try simp only [List.cons_append, List.nil_append, gvl_nil, gvl_t, gvl_f]); exact v_move rfl) ?_
    refine x_if [] rfl rfl rfl rfl rfl (fun hg => by obtain ⟨hg0, _⟩ := hg; subst hg0; (try simp only [List.cons_append, List.nil_append, gvl_nil, gvl_t, gvl_f]); exact v_move rfl) ?_
    refine x_ifb [] rfl rfl rfl rfl rfl (fun hg => by obtain ⟨hg0, _⟩ := hg; subst hg0; (try simp only [List.cons_append, List.nil_append, gvl_nil, gvl_t, gvl_f]); exact v_eql rfl rfl) ?_
    intro b127 hb127
    refine x_bool rfl rfl rfl (v_and rfl rfl) ?_
    intro b128 hb128
    refine x_val rfl rfl rfl (v_move rfl) ?_
    refine x_if [] rfl rfl rfl rfl rfl (fun hg => by obtain ⟨hg0, _⟩ := hg; subst hg0; (try simp only [List.cons_append, List.nil_append, gvl_nil, gvl_t, gvl_f]); exact v_move rfl) ?_
    refine x_if [] rfl rfl rfl rfl rfl (fun hg => by obtain ⟨hg0, _⟩ := hg; subst hg0; (try simp only [List.cons_append, List.nil_append, gvl_nil, gvl_t, gvl_f]); exact v_addi rfl rfl rfl (by first | omega | (dsimp only; omega))) ?_
    refine x_call_if [] rfl rfl rfl rfl rfl Tryd.func17 (by kernel_rfl) (fun hg => by obtain ⟨hg0, _⟩ := hg; subst hg0; (try simp only [List.cons_append, List.nil_append, gvl_nil, gvl_t, gvl_f]); refine ⟨_, rfl, ?_⟩; exact fun w1 hw1 => c17 _ w1) ?_
    refine x_if [] rfl rfl rfl rfl rfl (fun hg => by obtain ⟨hg0, _⟩ := hg; subst hg0; (try simp only [List.cons_append, List.nil_append, gvl_nil, gvl_t, gvl_f]); exact v_move rfl) ?_
    refine x_call_if [] rfl rfl rfl rfl rfl Tryd.func17 (by kernel_rfl) (fun hg => by obtain ⟨hg0, _⟩ := hg; subst hg0; (try simp only [List.cons_append, List.nil_append, gvl_nil, gvl_t, gvl_f]); refine ⟨_, rfl, ?_⟩; exact fun w1 hw1 => c17 _ w1) ?_
    refine x_ifb [] rfl rfl rfl rfl rfl (fun hg => by obtain ⟨hg0, _⟩ := hg; subst hg0; (try simp only [List.cons_append, List.nil_append, gvl_nil, gvl_t, gvl_f]); exact v_eql rfl rfl) ?_
    intro b135 hb135
    refine x_bool rfl rfl rfl (v_and rfl rfl) ?_
    intro b136 hb136
    refine x_val rfl rfl rfl (v_assign rfl) ?_
    refine x_end ?_
    refine t_norm ?_
    refine w_ret ?_
    refine ret1 rfl rfl (fun w' hm => ⟨?_, hm.base (by simp)⟩)
    have e4 := civ_400 ho ho4
    have hw1 : (N + 1 + 3) % 7 = ((N + 3) % 7 + 1).tmod 7 := by rw [Int.tmod_eq_emod_of_nonneg (by omega)]; omega
    have hw2 : (N + 146097 + 3) % 7 = (N + 3) % 7 := by omega
    have hall : b136 = true := by
      rcases civ_next ho ho1 with e | ⟨hd, e⟩ | ⟨hm, hd, e⟩
      · simp only [hb136, hb135, hb128, hb127, hb123, hb122, hb118, hb117, hb112, hb111, hb102, hb101, hb98, hb85, hb84, hb81, hb80, hb77, hb76, hb73, hb72, hb69, hb65, hb64, hb61, hb60, hb57, hb56, hb51, hb48, hb47, hb42, hb41, hb37, e4, e, hw1, hw2]; simp
      · simp only [hb136, hb135, hb128, hb127, hb123, hb122, hb118, hb117, hb112, hb111, hb102, hb101, hb98, hb85, hb84, hb81, hb80, hb77, hb76, hb73, hb72, hb69, hb65, hb64, hb61, hb60, hb57, hb56, hb51, hb48, hb47, hb42, hb41, hb37, e4, e, hw1, hw2]; simp [hd]
      · simp only [hb136, hb135, hb128, hb127, hb123, hb122, hb118, hb117, hb112, hb111, hb102, hb101, hb98, hb85, hb84, hb81, hb80, hb77, hb76, hb73, hb72, hb69, hb65, hb64, hb61, hb60, hb57, hb56, hb51, hb48, hb47, hb42, hb41, hb37, e4, e, hw1, hw2, hm, hd]; simp
    rw [hall]

theorem cnt_len (q : Int → Bool) (f : Int) (L : Nat) (l : List Int) : cnt (fun n => q n && hasI l n) f L ≤ l.length := by
  refine snoc_ind (P := fun l => cnt (fun n => q n && hasI l n) f L ≤ l.length) (by rw [cnt_nil]; exact Int.le_refl _) (fun l x ih => ?_) l
  have h1 := bi_rng (decide (f ≤ x ∧ x < f + L) && (q x && !hasI l x))
  have e := cnt_snoc q l x f L
  rw [e, List.length_append]
  show _ ≤ ((l.length + 1 : Nat) : Int)
  have ih : cnt (fun n => q n && hasI l n) f L ≤ l.length := ih
  omega
/-- Where Next finds nothing, every weekday is closed. -/
theorem next_none {wk : List Bool} {ds : List Int} {n : Int} (hw : wk.length = 7) (hl : ds.length ≤ 20) (h0 : -719162 ≤ n) (h1 : n + 400 ≤ 2932897) (h : nextR wk ds n = (0, false)) (hz : ∀ j : Nat, j < 400 → openP wk ds (n + j) = false) : ∀ j, j < 7 → wk.getD j false = true := by
  have hs := cnt_open (wk := wk) (ds := ds) (f := n) (L := 400) h0 h1
  rw [cnt_none hz] at hs
  have hle := cnt_len (wkOpen wk) n 400 ds
  intro j hj
  by_cases hc : wk.getD j false = true
  · exact hc
  · exfalso
    obtain ⟨k, hk, ek⟩ : ∃ k : Nat, k < 7 ∧ ((n + k + 3) % 7).toNat = j := ⟨((j - n - 3) % 7).toNat, by omega, by omega⟩
    have ho : wkOpen wk (n + k) = true := by unfold wkOpen; rw [ek]; simpa using hc
    have ht : tW wk n ((400 : Nat) : Int) k = (((400 : Nat) : Int) - k + 6) / 7 := by unfold tW; rw [if_pos ho]
    have r : ∀ i, i < 7 → 0 ≤ tW wk n ((400 : Nat) : Int) i := fun i hi => (tW_rng wk hi (by decide)).1
    have h7 : sW wk n ((400 : Nat) : Int) 7 ≥ tW wk n ((400 : Nat) : Int) k := by
      simp only [sW]
      have r0 := r 0 (by decide); have r1 := r 1 (by decide); have r2 := r 2 (by decide); have r3 := r 3 (by decide); have r4 := r 4 (by decide); have r5 := r 5 (by decide); have r6 := r 6 (by decide)
      have hk' : k = 0 ∨ k = 1 ∨ k = 2 ∨ k = 3 ∨ k = 4 ∨ k = 5 ∨ k = 6 := by omega
      clear ht hc ho ek r hle
      rcases hk' with rfl | rfl | rfl | rfl | rfl | rfl | rfl <;> omega
    omega
set_option maxRecDepth 10000 in
theorem next_is {wk : List Bool} {ds : List Int} {n : Int} : (∃ k : Nat, k < 400 ∧ openP wk ds (n + k) = true ∧ (∀ j, j < k → openP wk ds (n + (j : Int)) = false) ∧ nextR wk ds n = (n + k, true)) ∨ (nextR wk ds n = (0, false) ∧ ∀ j : Nat, j < 400 → openP wk ds (n + j) = false) := by
  unfold nextR
  cases h : (List.range 400).find? (fun j : Nat => openP wk ds (n + (j : Int))) with
  | none =>
    rw [List.find?_eq_none] at h
    exact .inr ⟨rfl, fun j hj => by simpa using h j (by simpa using hj)⟩
  | some k =>
    rw [List.find?_range_eq_some] at h
    obtain ⟨h1, h2, h3⟩ := h
    exact .inl ⟨k, by simpa using h2, h1, fun j hj => by simpa using h3 j hj, rfl⟩
theorem bits127 : ∀ u : Fin 256, (List.range 7).all (fun j => bitU (u.val : Int) j) = true → andK .u8 (u.val : Int) 127 = 127 := by decide +kernel
theorem wk_all {u : Int} (hu : 0 ≤ u ∧ u ≤ 255) (h : ∀ j, j < 7 → (wkOf u).getD j false = true) : andK .u8 u 127 = 127 := by
  have hb : ∀ j, j < 7 → bitU u j = true := fun j hj => by
    have := h j hj
    unfold wkOf wkP at this
    rw [List.getD_eq_getElem?_getD, List.getElem?_map, List.getElem?_range hj] at this
    simpa [hj] using this
  have := bits127 ⟨u.toNat, by omega⟩
  simp only [show ((u.toNat : Nat) : Int) = u by omega] at this
  refine this ?_
  rw [List.all_eq_true]
  intro j hj
  exact hb j (by simpa using hj)

end Go.Proofs.YtffdbbcmibamjaaDoor

namespace Go.Proofs.YtffdbbcmibamjaaDoor
open Go.RowKit Go.PK
set_option linter.unusedVariables false
set_option linter.unusedSimpArgs false

theorem nil_rd {D : Nat → Prop} {w : World} : sliceRd tyI D w (.slice none 0 0) [] := ⟨none, 0, rfl, Nat.le_refl _, Nat.zero_le _, fun h => absurd h (by simp)⟩
theorem next_free {n : Int} (h : okDay n) : nextR [false, false, false, false, false, false, false] [] n = (n, true) := by
  have ho : openP [false, false, false, false, false, false, false] [] (n + ((0 : Nat) : Int)) = true := by
    unfold openP
    rw [show n + ((0 : Nat) : Int) = n by omega, decide_eq_true h]
    have : ([false, false, false, false, false, false, false] : List Bool).getD ((n + 3) % 7).toNat false = false := by
      generalize ((n + 3) % 7).toNat = j
      match j with
      | 0 | 1 | 2 | 3 | 4 | 5 | 6 => rfl
      | j + 7 => rfl
    rw [this]; rfl
  have := next_yes (k := 0) (by decide) ho (by omega)
  rw [this]; congr 1; omega
set_option maxRecDepth 100000 in
theorem c6 (u near : Int) {v : Value} {l : List Int} (w : World) (hu : 0 ≤ u ∧ u ≤ 255) (hn : in64 near) (hls : sliceRd (tyK .u8) (fun _ => True) w v l) (hL : LD w) :
    Calls Tryd.prog 6 #[.int .u8 u, .int .i64 near, v] w fun e w' => e = .returned (.bool true) ∧ Later w w' := by
  obtain ⟨A, c, rfl, hlc, hmx, hA⟩ := id hls
  obtain ⟨N, hN⟩ : ∃ N, N = near.tmod 700000 := ⟨_, rfl⟩
  have hNr := tmod_bd near 700000 (by decide)
  rw [← hN] at hNr
  refine enter (vs := [.int .u8 u, .int .i64 near, .slice A l.length c]) Tryd.func6 rfl Tryd.ntmps6 rfl ?_
  refine w_seq ?_
  refine rg_text ?_
  refine x_val rfl rfl rfl (v_assign rfl) ?_
  refine x_end ?_
  refine t_norm ?_
  refine w_seq ?_
  refine rg_text ?_
  refine x_callb rfl rfl rfl Tryd.func12 (by kernel_rfl) rfl (fun w1 hw1 => c12 w1 (hL.later (hw1.base (by simp)))) ?_
  intro b14 hb14
  obtain rfl : b14 = true := hb14
  refine x_val rfl rfl rfl (v_assign rfl) ?_
  refine x_end ?_
  refine t_norm ?_
  refine w_seq ?_
  refine rg_text ?_
  refine x_val rfl rfl rfl (v_move rfl) ?_
  refine x_val (v := Value.int .i64 N) rfl rfl rfl (by rw [hN]; exact v_rem rfl rfl (by decide)) ?_
  refine x_val rfl rfl rfl (v_assign rfl) ?_
  refine x_end ?_
  refine t_norm ?_
  refine w_seq ?_
  refine rg_text ?_
  refine x_val rfl rfl rfl (v_move rfl) ?_
  refine x_val rfl rfl rfl (v_move rfl) ?_
  refine x_val rfl rfl rfl (v_move rfl) ?_
  refine x_call rfl rfl rfl Tryd.func22 (by kernel_rfl) rfl (fun w1 hw1 => c22 _ N w1 hu (hls.keep (Kept.later (hw1.base (by simp))))) ?_
  intro v20 wa20 wb20 hm20 hl20 hr20
  obtain ⟨V20, rfl, hrd20⟩ := hr20
  obtain ⟨A20, c20, hV20, _⟩ := id hrd20
  subst hV20
  refine x_alloc rfl rfl rfl zr38 ?_
  intro p8
  refine x_store0 [] rfl rfl rfl rfl sz38 rfl rfl ?_
  refine x_end ?_
  refine t_norm ?_
  refine w_seq ?_
  refine rg_text ?_
  refine x_val rfl rfl rfl (v_load_blk (e := 38) (fz := (0, 0)) (cs := (calC (wkOf u) (.slice A20 (madeD N l).length c20)).toArray) Tryd.underlying38 rfl rfl (.head _) (by rw [calC_size (wkOf_len u)]; exact sz38)) ?_
  refine x_val rfl rfl rfl (v_move rfl) ?_
  refine x_callv rfl rfl rfl Tryd.func23 (by kernel_rfl) rfl (fun w1 hw1 => c23 (wk := wkOf u) (v := (.slice A20 (madeD N l).length c20)) _ w1 (keep_new hrd20 hw1 (.head _) hm20) (wkOf_len u) (by unfold in64; omega)) ?_
  refine x_val rfl rfl rfl (v_move rfl) ?_
  refine x_val rfl rfl rfl (v_extract rfl rfl) ?_
  refine x_bool rfl rfl rfl (v_extract rfl rfl) ?_
  intro b26 hb26
  refine x_val rfl rfl rfl (v_assign rfl) ?_
  refine x_val rfl rfl rfl (v_assign rfl) ?_
  refine x_end ?_
  refine t_norm ?_
  refine w_seq ?_
  refine w_seq ?_
  refine rg_text ?_
  have hcase := next_is (wk := wkOf u) (ds := madeD N l) (n := N)
  refine x_val rfl rfl rfl (v_move rfl) ?_
  refine x_bool rfl rfl rfl (v_not rfl) ?_
  intro b28 hb28
  refine x_end ?_
  refine t_norm ?_
  refine w_cond rfl (fun hc28 => ?_) (fun hc28 => ?_)
  · have hB : (nextR (wkOf u) (madeD N l) N) = (0, false) ∧ ∀ j : Nat, j < 400 → openP (wkOf u) (madeD N l) (N + j) = false := by
      rcases hcase with ⟨k, hk, hop, hno, he⟩ | h
      · rw [hb28, hb26, he] at hc28; simp at hc28
      · exact h
    refine w_seq ?_
    refine rg_text ?_
    refine x_val rfl rfl rfl (v_move rfl) ?_
    refine x_val rfl rfl rfl (v_move rfl) ?_
    refine x_if [] rfl rfl rfl rfl rfl (fun hg => by obtain ⟨hg0, _⟩ := hg; (try simp only [List.cons_append, List.nil_append, gvl_nil, gvl_t, gvl_f]); exact v_move rfl) ?_
    refine x_if [] rfl rfl rfl rfl rfl (fun hg => by obtain ⟨hg0, _⟩ := hg; (try simp only [List.cons_append, List.nil_append, gvl_nil, gvl_t, gvl_f]); exact v_andK rfl rfl) ?_
    refine x_ifb [] rfl rfl rfl rfl rfl (fun hg => by obtain ⟨hg0, _⟩ := hg; (try simp only [List.cons_append, List.nil_append, gvl_nil, gvl_t, gvl_f]); exact v_eql rfl rfl) ?_
    intro b33 hb33
    refine x_bool rfl rfl rfl (v_and rfl rfl) ?_
    intro b34 hb34
    refine x_val rfl rfl rfl (v_assign rfl) ?_
    refine x_end ?_
    refine t_norm ?_
    refine w_ret ?_
    refine t_ret ?_
    refine ret1 rfl rfl (fun w' hm => ⟨?_, hm.base (by simp)⟩)
    rw [hb34, hb33, wk_all hu (next_none (wkOf_len u) (madeD_len N l) (by omega) (by omega) hB.1 hB.2)]; rfl
  · obtain ⟨k, hk, hop, hno, he⟩ : ∃ k : Nat, k < 400 ∧ openP (wkOf u) (madeD N l) (N + k) = true ∧ (∀ j, j < k → openP (wkOf u) (madeD N l) (N + (j : Int)) = false) ∧ (nextR (wkOf u) (madeD N l) N) = (N + k, true) := by
      rcases hcase with h | ⟨he, _⟩
      · exact h
      · rw [hb28, hb26, he] at hc28; simp at hc28
    rw [he]
    have hf := next_free (n := N) ⟨by omega, by omega⟩
    refine w_skip ?_
    refine t_norm ?_
    refine w_seq ?_
    refine w_seq ?_
    refine rg_text ?_
    refine x_val rfl rfl rfl (v_move rfl) ?_
    refine x_val (v := Value.int .i64 (N + ((0 : Nat) : Int))) rfl rfl rfl (by rw [show N + ((0 : Nat) : Int) = N by omega]; exact v_assign rfl) ?_
    refine x_end ?_
    refine t_norm ?_
    refine w_block ?_
    refine w_loop (σ := Nat) (fun i => i ≤ k) (fun i => [(1, Value.int .i64 N), (7, Value.bool true), (8, .pointer (some ⟨p8, 0, none⟩)), (9, Value.int .i64 (N + (k : Int))), (11, Value.int .i64 (N + (i : Int)))]) (fun i => [(p8, Obj.cells (calC (wkOf u) (.slice A20 (madeD N l).length c20)).toArray 38)]) (fun i => [(wb20, notOwn []), (w, fun _ => True)]) (fun i => k - i) (0) (Nat.zero_le _) (l_start (by repeat (first | exact Sub.nil | refine Sub.cons rfl ?_)) (fun _ h => h)) ?_
    rintro i hi
    refine w_state ([(1, Value.int .i64 N), (7, Value.bool true), (8, .pointer (some ⟨p8, 0, none⟩)), (9, Value.int .i64 (N + (k : Int))), (11, Value.int .i64 (N + (i : Int)))]) ([(p8, Obj.cells (calC (wkOf u) (.slice A20 (madeD N l).length c20)).toArray 38)]) ([(wb20, notOwn []), (w, fun _ => True)]) ?_
    refine w_seq ?_
    refine w_seq ?_
    refine rg_text ?_
    refine x_val rfl rfl rfl (v_move rfl) ?_
    refine x_val rfl rfl rfl (v_move rfl) ?_
    refine x_bool rfl rfl rfl (v_lss rfl rfl) ?_
    intro b38 hb38
    refine x_end ?_
    refine t_norm ?_
    refine w_cond rfl (fun hc38 => ?_) (fun hc38 => ?_)
    · simp only [hb38, decide_eq_true_eq, decide_eq_false_iff_not, Bool.and_eq_true, Bool.or_eq_true, Bool.and_eq_false_iff, Bool.or_eq_false_iff, Bool.not_eq_true', Bool.not_eq_false', ne_eq, Decidable.not_not] at hc38
      refine w_skip ?_
      refine t_norm ?_
      refine w_seq ?_
      refine w_block ?_
      refine w_seq ?_
      refine rg_text ?_
      refine x_val rfl rfl rfl (v_load_blk (e := 38) (fz := (0, 0)) (cs := (calC (wkOf u) (.slice A20 (madeD N l).length c20)).toArray) Tryd.underlying38 rfl rfl (.head _) (by rw [calC_size (wkOf_len u)]; exact sz38)) ?_
      refine x_val rfl rfl rfl (v_move rfl) ?_
      refine x_callb rfl rfl rfl Tryd.func24 (by kernel_rfl) rfl (fun w1 hw1 => c24 (wk := wkOf u) (v := (.slice A20 (madeD N l).length c20)) _ w1 (keep_new hrd20 hw1 (.head _) hm20) (wkOf_len u)) ?_
      intro b43 hb43
      refine x_end ?_
      refine t_norm ?_
      refine w_cond rfl (fun hc43 => ?_) (fun hc43 => ?_)
      · rw [hb43, hno i (by omega)] at hc43; cases hc43
      · skip
        refine w_skip ?_
        refine b_norm ?_
        refine t_norm ?_
        refine rg_text ?_
        refine x_val rfl rfl rfl (v_move rfl) ?_
        refine x_val rfl rfl rfl (v_addi rfl rfl rfl (by first | omega | (dsimp only; omega))) ?_
        refine x_val rfl rfl rfl (v_assign rfl) ?_
        refine x_end ?_
        exact l_norm (i + 1) (show i + 1 ≤ k by omega) (by omega) (by rw [show N + (i : Int) + 1 = N + ((i + 1 : Nat) : Int) by omega]; repeat (first | exact Sub.nil | refine Sub.cons rfl ?_)) (fun _ h => h)
    · simp only [hb38, decide_eq_true_eq, decide_eq_false_iff_not, Bool.and_eq_true, Bool.or_eq_true, Bool.and_eq_false_iff, Bool.or_eq_false_iff, Bool.not_eq_true', Bool.not_eq_false', ne_eq, Decidable.not_not] at hc38
      obtain rfl : i = k := by omega
      refine w_exit ?_
      refine t_exit ?_
      refine t_exit ?_
      refine b_hit ?_
      refine t_norm ?_
      refine w_seq ?_
      refine rg_text ?_
      refine x_val rfl rfl rfl (v_buildL (places := [(0, 7), (7, 1)]) Tryd.underlying38 zr38 (by kernel_rfl) rfl rfl) ?_
      refine x_val rfl rfl rfl (v_move rfl) ?_
      refine x_callv rfl rfl rfl Tryd.func23 (by kernel_rfl) rfl (fun w1 hw1 => c23 (wk := [false, false, false, false, false, false, false]) (v := .slice none 0 0) (ds := []) _ w1 (nil_rd (D := fun _ => True)) rfl (by unfold in64; omega)) ?_
      refine x_val rfl rfl rfl (v_move rfl) ?_
      refine x_val rfl rfl rfl (v_extract rfl rfl) ?_
      refine x_bool rfl rfl rfl (v_extract rfl rfl) ?_
      intro b49 hb49
      obtain rfl : b49 = true := hb49.trans (by rw [hf])
      refine x_val rfl rfl rfl (v_assign rfl) ?_
      refine x_val rfl rfl rfl (v_assign rfl) ?_
      refine x_end ?_
      refine t_norm ?_
      refine w_seq ?_
      refine rg_text ?_
      refine x_val rfl rfl rfl (v_move rfl) ?_
      refine x_val rfl rfl rfl (v_move rfl) ?_
      refine x_if [] rfl rfl rfl rfl rfl (fun hg => by obtain ⟨hg0, _⟩ := hg; (try simp only [List.cons_append, List.nil_append, gvl_nil, gvl_t, gvl_f]); exact v_move rfl) ?_
      refine x_if [] rfl rfl rfl rfl rfl (fun hg => by obtain ⟨hg0, _⟩ := hg; (try simp only [List.cons_append, List.nil_append, gvl_nil, gvl_t, gvl_f]); exact v_move rfl) ?_
      refine x_ifb [] rfl rfl rfl rfl rfl (fun hg => by obtain ⟨hg0, _⟩ := hg; (try simp only [List.cons_append, List.nil_append, gvl_nil, gvl_t, gvl_f]); exact v_geq rfl rfl) ?_
      intro b54 hb54
      obtain rfl : b54 = true := hb54.trans (decide_eq_true (by omega))
      refine x_bool rfl rfl rfl (v_and rfl rfl) ?_
      intro b55 hb55
      obtain rfl : b55 = true := hb55
      refine x_val rfl rfl rfl (v_move rfl) ?_
      refine x_if [] rfl rfl rfl rfl rfl (fun hg => by obtain ⟨hg0, _⟩ := hg; (try simp only [List.cons_append, List.nil_append, gvl_nil, gvl_t, gvl_f]); exact v_move rfl) ?_
      refine x_if [] rfl rfl rfl rfl rfl (fun hg => by obtain ⟨hg0, _⟩ := hg; (try simp only [List.cons_append, List.nil_append, gvl_nil, gvl_t, gvl_f]); exact v_move rfl) ?_
      refine x_if [] rfl rfl rfl rfl rfl (fun hg => by obtain ⟨hg0, _⟩ := hg; (try simp only [List.cons_append, List.nil_append, gvl_nil, gvl_t, gvl_f]); exact v_addi rfl rfl rfl (by first | omega | (dsimp only; omega))) ?_
      refine x_ifb [] rfl rfl rfl rfl rfl (fun hg => by obtain ⟨hg0, _⟩ := hg; (try simp only [List.cons_append, List.nil_append, gvl_nil, gvl_t, gvl_f]); exact v_lss rfl rfl) ?_
      intro b60 hb60
      obtain rfl : b60 = true := hb60.trans (decide_eq_true (by omega))
      refine x_bool rfl rfl rfl (v_and rfl rfl) ?_
      intro b61 hb61
      obtain rfl : b61 = true := hb61
      refine x_val rfl rfl rfl (v_move rfl) ?_
      refine x_if [] rfl rfl rfl rfl rfl (fun hg => by obtain ⟨hg0, _⟩ := hg; (try simp only [List.cons_append, List.nil_append, gvl_nil, gvl_t, gvl_f]); exact v_load_blk (e := 38) (fz := (0, 0)) (cs := (calC (wkOf u) (.slice A20 (madeD N l).length c20)).toArray) Tryd.underlying38 rfl rfl (.head _) (by rw [calC_size (wkOf_len u)]; exact sz38)) ?_
      refine x_if [] rfl rfl rfl rfl rfl (fun hg => by obtain ⟨hg0, _⟩ := hg; (try simp only [List.cons_append, List.nil_append, gvl_nil, gvl_t, gvl_f]); exact v_move rfl) ?_
      refine x_call_ifb [] rfl rfl rfl rfl rfl Tryd.func24 (by kernel_rfl) (fun hg => by obtain ⟨hg0, _⟩ := hg; (try simp only [List.cons_append, List.nil_append, gvl_nil, gvl_t, gvl_f]); refine ⟨_, rfl, ?_⟩; exact fun w1 hw1 => c24 (wk := wkOf u) (v := (.slice A20 (madeD N l).length c20)) _ w1 (keep_new hrd20 hw1 (.head _) hm20) (wkOf_len u)) ?_
      intro b65 hb65
      obtain rfl : b65 = true := hb65.trans (hop)
      refine x_bool rfl rfl rfl (v_and rfl rfl) ?_
      intro b66 hb66
      obtain rfl : b66 = true := hb66
      refine x_val rfl rfl rfl (v_move rfl) ?_
      refine x_if [] rfl rfl rfl rfl rfl (fun hg => by obtain ⟨hg0, _⟩ := hg; (try simp only [List.cons_append, List.nil_append, gvl_nil, gvl_t, gvl_f]); exact v_move rfl) ?_
      refine x_bool rfl rfl rfl (v_and rfl rfl) ?_
      intro b69 hb69
      obtain rfl : b69 = true := hb69
      refine x_val rfl rfl rfl (v_move rfl) ?_
      refine x_if [] rfl rfl rfl rfl rfl (fun hg => by obtain ⟨hg0, _⟩ := hg; (try simp only [List.cons_append, List.nil_append, gvl_nil, gvl_t, gvl_f]); exact v_move rfl) ?_
      refine x_if [] rfl rfl rfl rfl rfl (fun hg => by obtain ⟨hg0, _⟩ := hg; (try simp only [List.cons_append, List.nil_append, gvl_nil, gvl_t, gvl_f]); exact v_move rfl) ?_
      refine x_ifb [] rfl rfl rfl rfl rfl (fun hg => by obtain ⟨hg0, _⟩ := hg; (try simp only [List.cons_append, List.nil_append, gvl_nil, gvl_t, gvl_f]); exact v_eql rfl rfl) ?_
      intro b73 hb73
      obtain rfl : b73 = true := hb73.trans (by rw [hf]; exact decide_eq_true rfl)
      refine x_bool rfl rfl rfl (v_and rfl rfl) ?_
      intro b74 hb74
      obtain rfl : b74 = true := hb74
      refine x_val rfl rfl rfl (v_assign rfl) ?_
      refine x_end ?_
      refine t_norm ?_
      refine w_ret ?_
      refine ret1 rfl rfl (fun w' hm => ⟨?_, hm.base (by simp)⟩)
      rfl

end Go.Proofs.YtffdbbcmibamjaaDoor

namespace Go.Proofs.YtffdbbcmibamjaaDoor
open Go.RowKit Go.PK
set_option linter.unusedVariables false
set_option linter.unusedSimpArgs false
set_option maxRecDepth 100000 in
theorem c7 (u near : Int) {v : Value} {l : List Int} (w : World) (hu : 0 ≤ u ∧ u ≤ 255) (hn : in64 near) (hls : sliceRd (tyK .u8) (fun _ => True) w v l) (hL : LD w) :
    Calls Tryd.prog 7 #[.int .u8 u, .int .i64 near, v] w fun e w' => e = .returned (.bool true) ∧ Later w w' := by
  obtain ⟨A, c, rfl, hlc, hmx, hA⟩ := id hls
  obtain ⟨N, hN⟩ : ∃ N, N = near.tmod 3000000 := ⟨_, rfl⟩
  have hNr := tmod_bd near 3000000 (by decide)
  rw [← hN] at hNr
  refine enter (vs := [.int .u8 u, .int .i64 near, .slice A l.length c]) Tryd.func7 rfl Tryd.ntmps7 rfl ?_
  refine w_seq ?_
  refine rg_text ?_
  refine x_val rfl rfl rfl (v_assign rfl) ?_
  refine x_end ?_
  refine t_norm ?_
  refine w_seq ?_
  refine rg_text ?_
  refine x_callb rfl rfl rfl Tryd.func12 (by kernel_rfl) rfl (fun w1 hw1 => c12 w1 (hL.later (hw1.base (by simp)))) ?_
  intro b15 hb15
  obtain rfl : b15 = true := hb15
  refine x_val rfl rfl rfl (v_assign rfl) ?_
  refine x_end ?_
  refine t_norm ?_
  refine w_seq ?_
  refine rg_text ?_
  refine x_val rfl rfl rfl (v_move rfl) ?_
  refine x_val rfl rfl rfl (v_move rfl) ?_
  refine x_val rfl rfl rfl (v_move rfl) ?_
  refine x_call rfl rfl rfl Tryd.func22 (by kernel_rfl) rfl (fun w1 hw1 => c22 _ near w1 hu (hls.keep (Kept.later (hw1.base (by simp))))) ?_
  intro v19 wa19 wb19 hm19 hl19 hr19
  obtain ⟨V19, rfl, hrd19⟩ := hr19
  obtain ⟨A19, c19, hV19, _⟩ := id hrd19
  subst hV19
  refine x_alloc rfl rfl rfl zr38 ?_
  intro p8
  refine x_store0 [] rfl rfl rfl rfl sz38 rfl rfl ?_
  refine x_end ?_
  refine t_norm ?_
  refine w_seq ?_
  refine rg_text ?_
  refine x_val rfl rfl rfl (v_move rfl) ?_
  refine x_val (v := Value.int .i64 N) rfl rfl rfl (by rw [hN]; exact v_rem rfl rfl (by decide)) ?_
  refine x_val rfl rfl rfl (v_assign rfl) ?_
  refine x_end ?_
  refine t_norm ?_
  refine w_seq ?_
  refine w_seq ?_
  refine rg_text ?_
  refine x_val rfl rfl rfl (v_assign rfl) ?_
  refine x_end ?_
  refine t_norm ?_
  refine w_block ?_
  refine w_loop (σ := Nat) (fun k => k ≤ 4) (fun k => [(1, Value.int .i64 near), (7, Value.bool true), (8, .pointer (some ⟨p8, 0, none⟩)), (9, Value.int .i64 N), (10, Value.int .i64 (k : Nat))]) (fun k => [(p8, Obj.cells (calC (wkOf u) (.slice A19 (madeD near l).length c19)).toArray 38)]) (fun k => [(wb19, notOwn []), (w, fun _ => True)]) (fun k => 4 - k) (0) (Nat.zero_le _) (l_start (by repeat (first | exact Sub.nil | refine Sub.cons rfl ?_)) (fun _ h => h)) ?_
  rintro k hk
  refine w_state ([(1, Value.int .i64 near), (7, Value.bool true), (8, .pointer (some ⟨p8, 0, none⟩)), (9, Value.int .i64 N), (10, Value.int .i64 (k : Nat))]) ([(p8, Obj.cells (calC (wkOf u) (.slice A19 (madeD near l).length c19)).toArray 38)]) ([(wb19, notOwn []), (w, fun _ => True)]) ?_
  refine w_seq ?_
  refine w_seq ?_
  refine rg_text ?_
  refine x_val rfl rfl rfl (v_move rfl) ?_
  refine x_bool rfl rfl rfl (v_lss rfl rfl) ?_
  intro b23 hb23
  refine x_end ?_
  refine t_norm ?_
  refine w_cond rfl (fun hc23 => ?_) (fun hc23 => ?_)
  · simp only [hb23, decide_eq_true_eq, decide_eq_false_iff_not, Bool.and_eq_true, Bool.or_eq_true, Bool.and_eq_false_iff, Bool.or_eq_false_iff, Bool.not_eq_true', Bool.not_eq_false', ne_eq, Decidable.not_not] at hc23
    have hk4 : k < 4 := by omega
    refine w_skip ?_
    refine t_norm ?_
    refine w_seq ?_
    refine w_block ?_
    refine w_seq ?_
    refine rg_text ?_
    refine x_val rfl rfl rfl (v_move rfl) ?_
    refine x_val rfl rfl rfl (v_subi rfl rfl rfl (by first | omega | (dsimp only; omega))) ?_
    refine x_val rfl rfl rfl (v_move rfl) ?_
    refine x_val rfl rfl rfl (v_muli rfl rfl rfl (by first | omega | (dsimp only; omega))) ?_
    refine x_val rfl rfl rfl (v_addi rfl rfl rfl (by first | omega | (dsimp only; omega))) ?_
    refine x_val rfl rfl rfl (v_assign rfl) ?_
    refine x_end ?_
    refine t_norm ?_
    refine w_seq ?_
    refine rg_text ?_
    refine x_val rfl rfl rfl (v_move rfl) ?_
    refine x_val rfl rfl rfl (v_addi rfl rfl rfl (by first | omega | (dsimp only; omega))) ?_
    refine x_val rfl rfl rfl (v_move rfl) ?_
    refine x_val rfl rfl rfl (v_muli rfl rfl rfl (by first | omega | (dsimp only; omega))) ?_
    refine x_val rfl rfl rfl (v_subi rfl rfl rfl (by first | omega | (dsimp only; omega))) ?_
    refine x_val rfl rfl rfl (v_assign rfl) ?_
    refine x_end ?_
    refine t_norm ?_
    refine w_seq ?_
    refine rg_text ?_
    refine x_val rfl rfl rfl (v_assign rfl) ?_
    refine x_end ?_
    refine t_norm ?_
    refine w_seq ?_
    refine w_seq ?_
    refine rg_text ?_
    refine x_val rfl rfl rfl (v_move rfl) ?_
    refine x_val (v := Value.int .i64 ((N - 20 + 9 * (k : Int)) + ((0 : Nat) : Int))) rfl rfl rfl (by rw [show (N - 20 + 9 * (k : Int)) + ((0 : Nat) : Int) = (N - 20 + 9 * (k : Int)) by omega]; exact v_assign rfl) ?_
    refine x_end ?_
    refine t_norm ?_
    refine w_block ?_
    refine w_loop (σ := Nat) (fun i => i ≤ ((N + 60 - 31 * (k : Int)) - (N - 20 + 9 * (k : Int))).toNat) (fun i => [(1, Value.int .i64 near), (7, Value.bool true), (8, .pointer (some ⟨p8, 0, none⟩)), (9, Value.int .i64 N), (10, Value.int .i64 (k : Nat)), (11, Value.int .i64 (N - 20 + 9 * (k : Int))), (12, Value.int .i64 (N + 60 - 31 * (k : Int))), (13, Value.int .i64 (cnt (openP (wkOf u) (madeD near l)) (N - 20 + 9 * (k : Int)) i)), (14, Value.int .i64 ((N - 20 + 9 * (k : Int)) + (i : Int)))]) (fun i => [(p8, Obj.cells (calC (wkOf u) (.slice A19 (madeD near l).length c19)).toArray 38)]) (fun i => [(wb19, notOwn []), (w, fun _ => True)]) (fun i => ((N + 60 - 31 * (k : Int)) - (N - 20 + 9 * (k : Int))).toNat - i) (0) (Nat.zero_le _) (l_start (by repeat (first | exact Sub.nil | refine Sub.cons rfl ?_)) (fun _ h => h)) ?_
    rintro i hi
    refine w_state ([(1, Value.int .i64 near), (7, Value.bool true), (8, .pointer (some ⟨p8, 0, none⟩)), (9, Value.int .i64 N), (10, Value.int .i64 (k : Nat)), (11, Value.int .i64 (N - 20 + 9 * (k : Int))), (12, Value.int .i64 (N + 60 - 31 * (k : Int))), (13, Value.int .i64 (cnt (openP (wkOf u) (madeD near l)) (N - 20 + 9 * (k : Int)) i)), (14, Value.int .i64 ((N - 20 + 9 * (k : Int)) + (i : Int)))]) ([(p8, Obj.cells (calC (wkOf u) (.slice A19 (madeD near l).length c19)).toArray 38)]) ([(wb19, notOwn []), (w, fun _ => True)]) ?_
    have hcr := cnt_rng (openP (wkOf u) (madeD near l)) (N - 20 + 9 * (k : Int)) i
    refine w_seq ?_
    refine w_seq ?_
    refine rg_text ?_
    refine x_val rfl rfl rfl (v_move rfl) ?_
    refine x_val rfl rfl rfl (v_move rfl) ?_
    refine x_bool rfl rfl rfl (v_lss rfl rfl) ?_
    intro b39 hb39
    refine x_end ?_
    refine t_norm ?_
    refine w_cond rfl (fun hc39 => ?_) (fun hc39 => ?_)
    · simp only [hb39, decide_eq_true_eq, decide_eq_false_iff_not, Bool.and_eq_true, Bool.or_eq_true, Bool.and_eq_false_iff, Bool.or_eq_false_iff, Bool.not_eq_true', Bool.not_eq_false', ne_eq, Decidable.not_not] at hc39
      refine w_skip ?_
      refine t_norm ?_
      refine w_seq ?_
      refine w_block ?_
      refine w_seq ?_
      refine rg_text ?_
      refine x_val rfl rfl rfl (v_load_blk (e := 38) (fz := (0, 0)) (cs := (calC (wkOf u) (.slice A19 (madeD near l).length c19)).toArray) Tryd.underlying38 rfl rfl (.head _) (by rw [calC_size (wkOf_len u)]; exact sz38)) ?_
      refine x_val rfl rfl rfl (v_move rfl) ?_
      refine x_callb rfl rfl rfl Tryd.func24 (by kernel_rfl) rfl (fun w1 hw1 => c24 (wk := wkOf u) (v := (.slice A19 (madeD near l).length c19)) _ w1 (keep_new hrd19 hw1 (.head _) hm19) (wkOf_len u)) ?_
      intro b44 hb44
      refine x_end ?_
      refine t_norm ?_
      refine w_cond rfl (fun hc44 => ?_) (fun hc44 => ?_)
      · have hst : cnt (openP (wkOf u) (madeD near l)) (N - 20 + 9 * (k : Int)) (i + 1) = cnt (openP (wkOf u) (madeD near l)) (N - 20 + 9 * (k : Int)) i + bi b44 := by rw [hb44]; rfl
        rw [hc44] at hst
        have hst : _ = _ + (1 : Int) := hst
        refine rg_text ?_
        refine x_val rfl rfl rfl (v_move rfl) ?_
        refine x_val rfl rfl rfl (v_addi (c := cnt (openP (wkOf u) (madeD near l)) (N - 20 + 9 * (k : Int)) (i + 1)) rfl rfl (by omega) (by omega)) ?_
        refine x_val rfl rfl rfl (v_assign rfl) ?_
        refine x_end ?_
        refine b_norm ?_
        refine t_norm ?_
        refine rg_text ?_
        refine x_val rfl rfl rfl (v_move rfl) ?_
        refine x_val rfl rfl rfl (v_addi rfl rfl rfl (by first | omega | (dsimp only; omega))) ?_
        refine x_val rfl rfl rfl (v_assign rfl) ?_
        refine x_end ?_
        exact l_norm (i + 1) (show i + 1 ≤ ((N + 60 - 31 * (k : Int)) - (N - 20 + 9 * (k : Int))).toNat by omega) (by omega) (by rw [show (N - 20 + 9 * (k : Int)) + (i : Int) + 1 = (N - 20 + 9 * (k : Int)) + ((i + 1 : Nat) : Int) by omega]; repeat (first | exact Sub.nil | refine Sub.cons rfl ?_)) (fun _ h => h)
      · have hst : cnt (openP (wkOf u) (madeD near l)) (N - 20 + 9 * (k : Int)) (i + 1) = cnt (openP (wkOf u) (madeD near l)) (N - 20 + 9 * (k : Int)) i + bi b44 := by rw [hb44]; rfl
        rw [hc44] at hst
        have hst : _ = _ + (0 : Int) := hst
        refine w_skip ?_
        refine b_norm ?_
        refine t_norm ?_
        refine rg_text ?_
        refine x_val rfl rfl rfl (v_move rfl) ?_
        refine x_val rfl rfl rfl (v_addi rfl rfl rfl (by first | omega | (dsimp only; omega))) ?_
        refine x_val rfl rfl rfl (v_assign rfl) ?_
        refine x_end ?_
        rw [show cnt (openP (wkOf u) (madeD near l)) (N - 20 + 9 * (k : Int)) i = cnt (openP (wkOf u) (madeD near l)) (N - 20 + 9 * (k : Int)) (i + 1) by omega]
        exact l_norm (i + 1) (show i + 1 ≤ ((N + 60 - 31 * (k : Int)) - (N - 20 + 9 * (k : Int))).toNat by omega) (by omega) (by rw [show (N - 20 + 9 * (k : Int)) + (i : Int) + 1 = (N - 20 + 9 * (k : Int)) + ((i + 1 : Nat) : Int) by omega]; repeat (first | exact Sub.nil | refine Sub.cons rfl ?_)) (fun _ h => h)
    · simp only [hb39, decide_eq_true_eq, decide_eq_false_iff_not, Bool.and_eq_true, Bool.or_eq_true, Bool.and_eq_false_iff, Bool.or_eq_false_iff, Bool.not_eq_true', Bool.not_eq_false', ne_eq, Decidable.not_not] at hc39
      have hi2 : i = ((N + 60 - 31 * (k : Int)) - (N - 20 + 9 * (k : Int))).toNat := by omega
      rw [hi2, cnt_full]
      refine w_exit ?_
      refine t_exit ?_
      refine t_exit ?_
      refine b_hit ?_
      refine t_norm ?_
      refine w_seq ?_
      refine rg_text ?_
      refine x_val rfl rfl rfl (v_load_blk (e := 38) (fz := (0, 0)) (cs := (calC (wkOf u) (.slice A19 (madeD near l).length c19)).toArray) Tryd.underlying38 rfl rfl (.head _) (by rw [calC_size (wkOf_len u)]; exact sz38)) ?_
      refine x_val rfl rfl rfl (v_move rfl) ?_
      refine x_val rfl rfl rfl (v_move rfl) ?_
      refine x_callv rfl rfl rfl Tryd.func25 (by kernel_rfl) rfl (fun w1 hw1 => c25 (wk := wkOf u) (v := (.slice A19 (madeD near l).length c19)) _ _ w1 (keep_new hrd19 hw1 (.head _) hm19) (wkOf_len u) (madeD_len near l)) ?_
      refine x_val rfl rfl rfl (v_move rfl) ?_
      refine x_bool rfl rfl rfl (v_neq rfl rfl) ?_
      intro b52 hb52
      refine x_val rfl rfl rfl (v_move rfl) ?_
      refine x_if [] rfl rfl rfl rfl rfl (fun hg => by obtain ⟨hg0, _⟩ := hg; subst hg0; (try simp only [List.cons_append, List.nil_append, gvl_nil, gvl_t, gvl_f]); exact v_load_blk (e := 38) (fz := (0, 0)) (cs := (calC (wkOf u) (.slice A19 (madeD near l).length c19)).toArray) Tryd.underlying38 rfl rfl (.head _) (by rw [calC_size (wkOf_len u)]; exact sz38)) ?_
      refine x_if [] rfl rfl rfl rfl rfl (fun hg => by obtain ⟨hg0, _⟩ := hg; subst hg0; (try simp only [List.cons_append, List.nil_append, gvl_nil, gvl_t, gvl_f]); exact v_move rfl) ?_
      refine x_if [] rfl rfl rfl rfl rfl (fun hg => by obtain ⟨hg0, _⟩ := hg; subst hg0; (try simp only [List.cons_append, List.nil_append, gvl_nil, gvl_t, gvl_f]); exact v_move rfl) ?_
      refine x_call_if [] rfl rfl rfl rfl rfl Tryd.func26 (by kernel_rfl) (fun hg => by obtain ⟨hg0, _⟩ := hg; subst hg0; (try simp only [List.cons_append, List.nil_append, gvl_nil, gvl_t, gvl_f]); refine ⟨_, rfl, ?_⟩; exact fun w1 hw1 => c26 (wk := wkOf u) (v := (.slice A19 (madeD near l).length c19)) _ _ w1 (keep_new hrd19 hw1 (.head _) hm19) (wkOf_len u) (madeD_len near l)) ?_
      refine x_if [] rfl rfl rfl rfl rfl (fun hg => by obtain ⟨hg0, _⟩ := hg; subst hg0; (try simp only [List.cons_append, List.nil_append, gvl_nil, gvl_t, gvl_f]); exact v_move rfl) ?_
      refine x_ifb [] rfl rfl rfl rfl rfl (fun hg => by obtain ⟨hg0, _⟩ := hg; subst hg0; (try simp only [List.cons_append, List.nil_append, gvl_nil, gvl_t, gvl_f]); exact v_neq rfl rfl) ?_
      intro b59 hb59
      refine x_bool rfl rfl rfl (v_or rfl rfl) ?_
      intro b60 hb60
      refine x_end ?_
      refine t_norm ?_
      refine w_cond rfl (fun hc60 => ?_) (fun hc60 => ?_)
      · rw [hb60, hb59, hb52] at hc60; simp at hc60
      · skip
        refine w_skip ?_
        refine b_norm ?_
        refine t_norm ?_
        refine rg_text ?_
        refine x_val rfl rfl rfl (v_move rfl) ?_
        refine x_val rfl rfl rfl (v_addi rfl rfl rfl (by first | omega | (dsimp only; omega))) ?_
        refine x_val rfl rfl rfl (v_assign rfl) ?_
        refine x_end ?_
        exact l_norm (k + 1) (show k + 1 ≤ 4 by omega) (by omega) (by repeat (first | exact Sub.nil | refine Sub.cons rfl ?_)) (fun _ h => h)
  · simp only [hb23, decide_eq_true_eq, decide_eq_false_iff_not, Bool.and_eq_true, Bool.or_eq_true, Bool.and_eq_false_iff, Bool.or_eq_false_iff, Bool.not_eq_true', Bool.not_eq_false', ne_eq, Decidable.not_not] at hc23
    refine w_exit ?_
    refine t_exit ?_
    refine t_exit ?_
    refine b_hit ?_
    refine t_norm ?_
    refine w_seq ?_
    refine rg_draw 28 [(true, 0), (true, 1), (true, 2), (true, 3), (true, 4), (true, 5), (true, 6), (true, 7), (true, 8), (true, 9), (true, 10), (true, 11), (true, 12), (true, 13), (true, 14), (true, 15), (true, 16), (true, 17), (true, 18), (true, 19), (true, 20), (true, 21), (true, 22), (true, 23), (true, 24), (true, 25), (true, 26), (true, 27)] (by kernel_rfl) (by kernel_rfl) ?_
    refine x_val rfl rfl rfl (v_move rfl) ?_
    refine x_val rfl rfl rfl (v_move rfl) ?_
    refine x_if [] rfl rfl rfl rfl rfl (fun hg => by obtain ⟨hg0, _⟩ := hg; (try simp only [List.cons_append, List.nil_append, gvl_nil, gvl_t, gvl_f]); exact v_load_blk (e := 38) (fz := (0, 0)) (cs := (calC (wkOf u) (.slice A19 (madeD near l).length c19)).toArray) Tryd.underlying38 rfl rfl (.head _) (by rw [calC_size (wkOf_len u)]; exact sz38)) ?_
    refine x_if [] rfl rfl rfl rfl rfl (fun hg => by obtain ⟨hg0, _⟩ := hg; (try simp only [List.cons_append, List.nil_append, gvl_nil, gvl_t, gvl_f]); exact v_move rfl) ?_
    refine x_if [] rfl rfl rfl rfl rfl (fun hg => by obtain ⟨hg0, _⟩ := hg; (try simp only [List.cons_append, List.nil_append, gvl_nil, gvl_t, gvl_f]); exact v_move rfl) ?_
    refine x_if [] rfl rfl rfl rfl rfl (fun hg => by obtain ⟨hg0, _⟩ := hg; (try simp only [List.cons_append, List.nil_append, gvl_nil, gvl_t, gvl_f]); exact v_addi rfl rfl rfl (by first | omega | (dsimp only; omega))) ?_
    refine x_call_if [] rfl rfl rfl rfl rfl Tryd.func25 (by kernel_rfl) (fun hg => by obtain ⟨hg0, _⟩ := hg; (try simp only [List.cons_append, List.nil_append, gvl_nil, gvl_t, gvl_f]); refine ⟨_, rfl, ?_⟩; exact fun w1 hw1 => c25 (wk := wkOf u) (v := (.slice A19 (madeD near l).length c19)) _ _ w1 (keep_new hrd19 hw1 (.head _) hm19) (wkOf_len u) (madeD_len near l)) ?_
    refine x_if [] rfl rfl rfl rfl rfl (fun hg => by obtain ⟨hg0, _⟩ := hg; (try simp only [List.cons_append, List.nil_append, gvl_nil, gvl_t, gvl_f]); exact v_load_blk (e := 38) (fz := (0, 0)) (cs := (calC (wkOf u) (.slice A19 (madeD near l).length c19)).toArray) Tryd.underlying38 rfl rfl (.head _) (by rw [calC_size (wkOf_len u)]; exact sz38)) ?_
    refine x_if [] rfl rfl rfl rfl rfl (fun hg => by obtain ⟨hg0, _⟩ := hg; (try simp only [List.cons_append, List.nil_append, gvl_nil, gvl_t, gvl_f]); exact v_move rfl) ?_
    refine x_if [] rfl rfl rfl rfl rfl (fun hg => by obtain ⟨hg0, _⟩ := hg; (try simp only [List.cons_append, List.nil_append, gvl_nil, gvl_t, gvl_f]); exact v_move rfl) ?_
    refine x_if [] rfl rfl rfl rfl rfl (fun hg => by obtain ⟨hg0, _⟩ := hg; (try simp only [List.cons_append, List.nil_append, gvl_nil, gvl_t, gvl_f]); exact v_addi rfl rfl rfl (by first | omega | (dsimp only; omega))) ?_
    refine x_call_if [] rfl rfl rfl rfl rfl Tryd.func26 (by kernel_rfl) (fun hg => by obtain ⟨hg0, _⟩ := hg; (try simp only [List.cons_append, List.nil_append, gvl_nil, gvl_t, gvl_f]); refine ⟨_, rfl, ?_⟩; exact fun w1 hw1 => c26 (wk := wkOf u) (v := (.slice A19 (madeD near l).length c19)) _ _ w1 (keep_new hrd19 hw1 (.head _) hm19) (wkOf_len u) (madeD_len near l)) ?_
    refine x_ifb [] rfl rfl rfl rfl rfl (fun hg => by obtain ⟨hg0, _⟩ := hg; (try simp only [List.cons_append, List.nil_append, gvl_nil, gvl_t, gvl_f]); exact v_eql rfl rfl) ?_
    intro b73 hb73
    obtain rfl : b73 = true := hb73.trans (decide_eq_true rfl)
    refine x_bool rfl rfl rfl (v_and rfl rfl) ?_
    intro b74 hb74
    obtain rfl : b74 = true := hb74
    refine x_val rfl rfl rfl (v_move rfl) ?_
    refine x_if [] rfl rfl rfl rfl rfl (fun hg => by obtain ⟨hg0, _⟩ := hg; (try simp only [List.cons_append, List.nil_append, gvl_nil, gvl_t, gvl_f]); exact v_load_blk (e := 38) (fz := (0, 0)) (cs := (calC (wkOf u) (.slice A19 (madeD near l).length c19)).toArray) Tryd.underlying38 rfl rfl (.head _) (by rw [calC_size (wkOf_len u)]; exact sz38)) ?_
    refine x_if [] rfl rfl rfl rfl rfl (fun hg => by obtain ⟨hg0, _⟩ := hg; (try simp only [List.cons_append, List.nil_append, gvl_nil, gvl_t, gvl_f]); exact v_move rfl) ?_
    refine x_if [] rfl rfl rfl rfl rfl (fun hg => by obtain ⟨hg0, _⟩ := hg; (try simp only [List.cons_append, List.nil_append, gvl_nil, gvl_t, gvl_f]); exact v_subi rfl rfl rfl (by first | omega | (dsimp only; omega))) ?_
    refine x_if [] rfl rfl rfl rfl rfl (fun hg => by obtain ⟨hg0, _⟩ := hg; (try simp only [List.cons_append, List.nil_append, gvl_nil, gvl_t, gvl_f]); exact v_move rfl) ?_
    refine x_call_if [] rfl rfl rfl rfl rfl Tryd.func25 (by kernel_rfl) (fun hg => by obtain ⟨hg0, _⟩ := hg; (try simp only [List.cons_append, List.nil_append, gvl_nil, gvl_t, gvl_f]); refine ⟨_, rfl, ?_⟩; exact fun w1 hw1 => c25 (wk := wkOf u) (v := (.slice A19 (madeD near l).length c19)) _ _ w1 (keep_new hrd19 hw1 (.head _) hm19) (wkOf_len u) (madeD_len near l)) ?_
    refine x_if [] rfl rfl rfl rfl rfl (fun hg => by obtain ⟨hg0, _⟩ := hg; (try simp only [List.cons_append, List.nil_append, gvl_nil, gvl_t, gvl_f]); exact v_load_blk (e := 38) (fz := (0, 0)) (cs := (calC (wkOf u) (.slice A19 (madeD near l).length c19)).toArray) Tryd.underlying38 rfl rfl (.head _) (by rw [calC_size (wkOf_len u)]; exact sz38)) ?_
    refine x_if [] rfl rfl rfl rfl rfl (fun hg => by obtain ⟨hg0, _⟩ := hg; (try simp only [List.cons_append, List.nil_append, gvl_nil, gvl_t, gvl_f]); exact v_move rfl) ?_
    refine x_if [] rfl rfl rfl rfl rfl (fun hg => by obtain ⟨hg0, _⟩ := hg; (try simp only [List.cons_append, List.nil_append, gvl_nil, gvl_t, gvl_f]); exact v_subi rfl rfl rfl (by first | omega | (dsimp only; omega))) ?_
    refine x_if [] rfl rfl rfl rfl rfl (fun hg => by obtain ⟨hg0, _⟩ := hg; (try simp only [List.cons_append, List.nil_append, gvl_nil, gvl_t, gvl_f]); exact v_move rfl) ?_
    refine x_call_if [] rfl rfl rfl rfl rfl Tryd.func26 (by kernel_rfl) (fun hg => by obtain ⟨hg0, _⟩ := hg; (try simp only [List.cons_append, List.nil_append, gvl_nil, gvl_t, gvl_f]); refine ⟨_, rfl, ?_⟩; exact fun w1 hw1 => c26 (wk := wkOf u) (v := (.slice A19 (madeD near l).length c19)) _ _ w1 (keep_new hrd19 hw1 (.head _) hm19) (wkOf_len u) (madeD_len near l)) ?_
    refine x_ifb [] rfl rfl rfl rfl rfl (fun hg => by obtain ⟨hg0, _⟩ := hg; (try simp only [List.cons_append, List.nil_append, gvl_nil, gvl_t, gvl_f]); exact v_eql rfl rfl) ?_
    intro b86 hb86
    obtain rfl : b86 = true := hb86.trans (decide_eq_true rfl)
    refine x_bool rfl rfl rfl (v_and rfl rfl) ?_
    intro b87 hb87
    obtain rfl : b87 = true := hb87
    refine x_val rfl rfl rfl (v_assign rfl) ?_
    refine x_end ?_
    refine t_norm ?_
    refine w_ret ?_
    refine ret1 rfl rfl (fun w' hm => ⟨?_, hm.base (by simp)⟩)
    rfl
set_option maxRecDepth 100000 in
theorem c8 (u near : Int) {v : Value} {l : List Int} (w : World) (hu : 0 ≤ u ∧ u ≤ 255) (hn : in64 near) (hls : sliceRd (tyK .u8) (fun _ => True) w v l) (hL : LD w) :
    Calls Tryd.prog 8 #[.int .u8 u, .int .i64 near, v] w fun e w' => e = .returned (.bool true) ∧ Later w w' := by
  obtain ⟨A, c, rfl, hlc, hmx, hA⟩ := id hls
  obtain ⟨N, hN⟩ : ∃ N, N = near.tmod 3000000 := ⟨_, rfl⟩
  have hNr := tmod_bd near 3000000 (by decide)
  rw [← hN] at hNr
  refine enter (vs := [.int .u8 u, .int .i64 near, .slice A l.length c]) Tryd.func8 rfl Tryd.ntmps8 rfl ?_
  refine w_seq ?_
  refine rg_text ?_
  refine x_val rfl rfl rfl (v_assign rfl) ?_
  refine x_end ?_
  refine t_norm ?_
  refine w_seq ?_
  refine rg_text ?_
  refine x_callb rfl rfl rfl Tryd.func12 (by kernel_rfl) rfl (fun w1 hw1 => c12 w1 (hL.later (hw1.base (by simp)))) ?_
  intro b13 hb13
  obtain rfl : b13 = true := hb13
  refine x_val rfl rfl rfl (v_assign rfl) ?_
  refine x_end ?_
  refine t_norm ?_
  refine w_seq ?_
  refine rg_text ?_
  refine x_val rfl rfl rfl (v_move rfl) ?_
  refine x_val rfl rfl rfl (v_move rfl) ?_
  refine x_val rfl rfl rfl (v_move rfl) ?_
  refine x_call rfl rfl rfl Tryd.func22 (by kernel_rfl) rfl (fun w1 hw1 => c22 _ near w1 hu (hls.keep (Kept.later (hw1.base (by simp))))) ?_
  intro v17 wa17 wb17 hm17 hl17 hr17
  obtain ⟨V17, rfl, hrd17⟩ := hr17
  obtain ⟨A17, c17, hV17, _⟩ := id hrd17
  subst hV17
  refine x_alloc rfl rfl rfl zr38 ?_
  intro p8
  refine x_store0 [] rfl rfl rfl rfl sz38 rfl rfl ?_
  refine x_end ?_
  refine t_norm ?_
  refine w_seq ?_
  refine rg_text ?_
  refine x_val rfl rfl rfl (v_move rfl) ?_
  refine x_val (v := Value.int .i64 N) rfl rfl rfl (by rw [hN]; exact v_rem rfl rfl (by decide)) ?_
  refine x_val rfl rfl rfl (v_assign rfl) ?_
  refine x_end ?_
  refine t_norm ?_
  refine w_seq ?_
  refine rg_text ?_
  refine x_val rfl rfl rfl (v_move rfl) ?_
  refine x_val rfl rfl rfl (v_move rfl) ?_
  refine x_val rfl rfl rfl (v_len_slice Tryd.underlying35 rfl) ?_
  refine x_val rfl rfl rfl (v_add rfl rfl) ?_
  refine x_val rfl rfl rfl (v_assign rfl) ?_
  refine x_end ?_
  refine t_norm ?_
  refine w_seq ?_
  refine rg_text ?_
  refine x_val rfl rfl rfl (v_move rfl) ?_
  refine x_val rfl rfl rfl (v_move rfl) ?_
  refine x_val rfl rfl rfl (v_len_slice Tryd.underlying35 rfl) ?_
  refine x_val rfl rfl rfl (v_mul rfl rfl) ?_
  refine x_val rfl rfl rfl (v_add rfl rfl) ?_
  refine x_val rfl rfl rfl (v_assign rfl) ?_
  refine x_end ?_
  refine t_norm ?_
  refine w_seq ?_
  refine w_seq ?_
  refine rg_text ?_
  refine x_val rfl rfl rfl (v_assign rfl) ?_
  refine x_end ?_
  refine t_norm ?_
  refine w_block ?_
  refine w_loop (σ := Int × Int × Nat) (fun x => x.2.2 ≤ 5) (fun x => [(1, Value.int .i64 near), (2, .slice A l.length c), (7, Value.bool true), (8, .pointer (some ⟨p8, 0, none⟩)), (9, Value.int .i64 N), (10, Value.int .i64 x.1), (11, Value.int .i64 x.2.1), (12, Value.int .i64 (x.2.2 : Nat))]) (fun x => [(p8, Obj.cells (calC (wkOf u) (.slice A17 (madeD near l).length c17)).toArray 38)]) (fun x => [(wb17, notOwn []), (w, fun _ => True)]) (fun x => 5 - x.2.2) ((_, _, 0)) (Nat.zero_le _) (l_start (by repeat (first | exact Sub.nil | refine Sub.cons rfl ?_)) (fun _ h => h)) ?_
  rintro ⟨m, t, k⟩ hk
  refine w_state ([(1, Value.int .i64 near), (2, .slice A l.length c), (7, Value.bool true), (8, .pointer (some ⟨p8, 0, none⟩)), (9, Value.int .i64 N), (10, Value.int .i64 m), (11, Value.int .i64 t), (12, Value.int .i64 (k : Nat))]) ([(p8, Obj.cells (calC (wkOf u) (.slice A17 (madeD near l).length c17)).toArray 38)]) ([(wb17, notOwn []), (w, fun _ => True)]) ?_
  dsimp only at hk
  refine w_seq ?_
  refine w_seq ?_
  refine rg_text ?_
  refine x_val rfl rfl rfl (v_move rfl) ?_
  refine x_val rfl rfl rfl (v_move rfl) ?_
  refine x_val rfl rfl rfl (v_len_slice Tryd.underlying35 rfl) ?_
  refine x_bool rfl rfl rfl (v_lss rfl rfl) ?_
  intro b32 hb32
  refine x_val rfl rfl rfl (v_move rfl) ?_
  refine x_if [] rfl rfl rfl rfl rfl (fun hg => by obtain ⟨hg0, _⟩ := hg; subst hg0; (try simp only [List.cons_append, List.nil_append, gvl_nil, gvl_t, gvl_f]); exact v_move rfl) ?_
  refine x_ifb [] rfl rfl rfl rfl rfl (fun hg => by obtain ⟨hg0, _⟩ := hg; subst hg0; (try simp only [List.cons_append, List.nil_append, gvl_nil, gvl_t, gvl_f]); exact v_lss rfl rfl) ?_
  intro b35 hb35
  refine x_bool rfl rfl rfl (v_and rfl rfl) ?_
  intro b36 hb36
  refine x_end ?_
  refine t_norm ?_
  refine w_cond rfl (fun hc36 => ?_) (fun hc36 => ?_)
  · simp only [hb36, hb35, hb32, decide_eq_true_eq, decide_eq_false_iff_not, Bool.and_eq_true, Bool.or_eq_true, Bool.and_eq_false_iff, Bool.or_eq_false_iff, Bool.not_eq_true', Bool.not_eq_false', ne_eq, Decidable.not_not] at hc36
    have hkl : k < l.length := by omega
    obtain ⟨b0, o0, hA0, hD0, hc0, hx1, hx2⟩ := k_at hls hkl
    refine w_skip ?_
    refine t_norm ?_
    refine w_seq ?_
    refine w_block ?_
    refine w_seq ?_
    refine rg_text ?_
    refine x_val rfl rfl rfl (v_move rfl) ?_
    refine x_val rfl rfl rfl (v_move rfl) ?_
    refine x_val rfl rfl rfl (v_move rfl) ?_
    refine x_val rfl rfl rfl (v_indexAddr Tryd.underlying35 sz5 (congrArg (fun A => some (Value.slice A l.length c)) hA0) rfl (by first | omega | (dsimp only; omega)) rfl) ?_
    refine x_val rfl rfl rfl (v_load Tryd.underlying5 rfl rfl (at_ro (List.mem_cons_of_mem _ (.head _)) trivial (by rw [Nat.mul_one]; exact hc0))) ?_
    refine x_val rfl rfl rfl (v_conv Tryd.underlying5 Tryd.underlying3 rfl) ?_
    refine x_val rfl rfl rfl (v_add rfl rfl) ?_
    refine x_val rfl rfl rfl (v_assign rfl) ?_
    refine x_end ?_
    refine t_norm ?_
    refine rg_text ?_
    refine x_val rfl rfl rfl (v_move rfl) ?_
    refine x_val rfl rfl rfl (v_move rfl) ?_
    refine x_val rfl rfl rfl (v_move rfl) ?_
    refine x_val rfl rfl rfl (v_indexAddr Tryd.underlying35 sz5 (congrArg (fun A => some (Value.slice A l.length c)) hA0) rfl (by first | omega | (dsimp only; omega)) rfl) ?_
    refine x_val rfl rfl rfl (v_load Tryd.underlying5 rfl rfl (at_ro (List.mem_cons_of_mem _ (.head _)) trivial (by rw [Nat.mul_one]; exact hc0))) ?_
    refine x_val rfl rfl rfl (v_conv Tryd.underlying5 Tryd.underlying3 rfl) ?_
    refine x_val rfl rfl rfl (v_mul rfl rfl) ?_
    refine x_val rfl rfl rfl (v_add rfl rfl) ?_
    refine x_val rfl rfl rfl (v_add rfl rfl) ?_
    refine x_val rfl rfl rfl (v_assign rfl) ?_
    refine x_end ?_
    refine b_norm ?_
    refine t_norm ?_
    refine rg_text ?_
    refine x_val rfl rfl rfl (v_move rfl) ?_
    refine x_val rfl rfl rfl (v_addi rfl rfl rfl (by first | omega | (dsimp only; omega))) ?_
    refine x_val rfl rfl rfl (v_assign rfl) ?_
    refine x_end ?_
    exact l_norm (_, _, k + 1) (show k + 1 ≤ 5 by omega) (by simp only; omega) (by repeat (first | exact Sub.nil | refine Sub.cons rfl ?_)) (fun _ h => h)
  · skip
    refine w_exit ?_
    refine t_exit ?_
    refine t_exit ?_
    refine b_hit ?_
    refine t_norm ?_
    refine w_seq ?_
    refine w_seq ?_
    refine rg_text ?_
    refine x_val rfl rfl rfl (v_move rfl) ?_
    refine x_val rfl rfl rfl (v_move rfl) ?_
    refine x_bool rfl rfl rfl (v_gtr rfl rfl) ?_
    intro b57 hb57
    refine x_val rfl rfl rfl (v_move rfl) ?_
    refine x_if [] rfl rfl rfl rfl rfl (fun hg => by obtain ⟨hg0, _⟩ := hg; subst hg0; (try simp only [List.cons_append, List.nil_append, gvl_nil, gvl_t, gvl_f]); exact v_move rfl) ?_
    refine x_if [] rfl rfl rfl rfl rfl (fun hg => by obtain ⟨hg0, _⟩ := hg; subst hg0; (try simp only [List.cons_append, List.nil_append, gvl_nil, gvl_t, gvl_f]); exact v_move rfl) ?_
    refine x_ifb [] rfl rfl rfl rfl rfl (fun hg => by obtain ⟨hg0, _⟩ := hg; subst hg0; (try simp only [List.cons_append, List.nil_append, gvl_nil, gvl_t, gvl_f]); exact v_gtr rfl rfl) ?_
    intro b61 hb61
    refine x_bool rfl rfl rfl (v_or rfl rfl) ?_
    intro b62 hb62
    refine x_end ?_
    refine t_norm ?_
    refine w_cond rfl (fun hc62 => ?_) (fun hc62 => ?_)
    · skip
      refine w_seq ?_
      refine rg_text ?_
      refine x_val rfl rfl rfl (v_move rfl) ?_
      refine x_val rfl rfl rfl (v_assign rfl) ?_
      refine x_end ?_
      refine t_norm ?_
      refine w_ret ?_
      refine t_ret ?_
      refine ret1 rfl rfl (fun w' hm => ⟨?_, hm.base (by simp)⟩)
      rfl
    · simp only [hb62, hb61, hb57, decide_eq_true_eq, decide_eq_false_iff_not, Bool.and_eq_true, Bool.or_eq_true, Bool.and_eq_false_iff, Bool.or_eq_false_iff, Bool.not_eq_true', Bool.not_eq_false', ne_eq, Decidable.not_not] at hc62
      obtain ⟨h1, h2⟩ : N ≤ m ∧ m ≤ t := by omega
      have r1 := cntP_rng (wkOf u) (madeD near l) N m
      have r2 := cntP_rng (wkOf u) (madeD near l) m t
      refine w_skip ?_
      refine t_norm ?_
      refine w_seq ?_
      refine rg_draw 33 [(true, 0), (true, 1), (true, 2), (true, 3), (true, 4), (true, 5), (true, 6), (true, 7), (true, 8), (true, 9), (true, 10), (true, 11), (true, 12), (true, 13), (true, 14), (true, 15), (true, 16), (true, 17), (true, 18), (true, 19), (true, 20), (true, 21), (true, 22), (true, 23), (true, 24), (true, 25), (true, 26), (true, 27), (true, 28), (true, 29), (true, 30), (true, 31), (true, 32)] (by kernel_rfl) (by kernel_rfl) ?_
      refine x_val rfl rfl rfl (v_move rfl) ?_
      refine x_val rfl rfl rfl (v_move rfl) ?_
      refine x_if [] rfl rfl rfl rfl rfl (fun hg => by obtain ⟨hg0, _⟩ := hg; (try simp only [List.cons_append, List.nil_append, gvl_nil, gvl_t, gvl_f]); exact v_load_blk (e := 38) (fz := (0, 0)) (cs := (calC (wkOf u) (.slice A17 (madeD near l).length c17)).toArray) Tryd.underlying38 rfl rfl (.head _) (by rw [calC_size (wkOf_len u)]; exact sz38)) ?_
      refine x_if [] rfl rfl rfl rfl rfl (fun hg => by obtain ⟨hg0, _⟩ := hg; (try simp only [List.cons_append, List.nil_append, gvl_nil, gvl_t, gvl_f]); exact v_move rfl) ?_
      refine x_if [] rfl rfl rfl rfl rfl (fun hg => by obtain ⟨hg0, _⟩ := hg; (try simp only [List.cons_append, List.nil_append, gvl_nil, gvl_t, gvl_f]); exact v_move rfl) ?_
      refine x_call_if [] rfl rfl rfl rfl rfl Tryd.func25 (by kernel_rfl) (fun hg => by obtain ⟨hg0, _⟩ := hg; (try simp only [List.cons_append, List.nil_append, gvl_nil, gvl_t, gvl_f]); refine ⟨_, rfl, ?_⟩; exact fun w1 hw1 => c25 (wk := wkOf u) (v := (.slice A17 (madeD near l).length c17)) _ _ w1 (keep_new hrd17 hw1 (.head _) hm17) (wkOf_len u) (madeD_len near l)) ?_
      refine x_if [] rfl rfl rfl rfl rfl (fun hg => by obtain ⟨hg0, _⟩ := hg; (try simp only [List.cons_append, List.nil_append, gvl_nil, gvl_t, gvl_f]); exact v_load_blk (e := 38) (fz := (0, 0)) (cs := (calC (wkOf u) (.slice A17 (madeD near l).length c17)).toArray) Tryd.underlying38 rfl rfl (.head _) (by rw [calC_size (wkOf_len u)]; exact sz38)) ?_
      refine x_if [] rfl rfl rfl rfl rfl (fun hg => by obtain ⟨hg0, _⟩ := hg; (try simp only [List.cons_append, List.nil_append, gvl_nil, gvl_t, gvl_f]); exact v_move rfl) ?_
      refine x_if [] rfl rfl rfl rfl rfl (fun hg => by obtain ⟨hg0, _⟩ := hg; (try simp only [List.cons_append, List.nil_append, gvl_nil, gvl_t, gvl_f]); exact v_move rfl) ?_
      refine x_call_if [] rfl rfl rfl rfl rfl Tryd.func25 (by kernel_rfl) (fun hg => by obtain ⟨hg0, _⟩ := hg; (try simp only [List.cons_append, List.nil_append, gvl_nil, gvl_t, gvl_f]); refine ⟨_, rfl, ?_⟩; exact fun w1 hw1 => c25 (wk := wkOf u) (v := (.slice A17 (madeD near l).length c17)) _ _ w1 (keep_new hrd17 hw1 (.head _) hm17) (wkOf_len u) (madeD_len near l)) ?_
      refine x_if [] rfl rfl rfl rfl rfl (fun hg => by obtain ⟨hg0, _⟩ := hg; (try simp only [List.cons_append, List.nil_append, gvl_nil, gvl_t, gvl_f]); exact v_addi rfl rfl rfl (by first | omega | (dsimp only; omega))) ?_
      refine x_if [] rfl rfl rfl rfl rfl (fun hg => by obtain ⟨hg0, _⟩ := hg; (try simp only [List.cons_append, List.nil_append, gvl_nil, gvl_t, gvl_f]); exact v_load_blk (e := 38) (fz := (0, 0)) (cs := (calC (wkOf u) (.slice A17 (madeD near l).length c17)).toArray) Tryd.underlying38 rfl rfl (.head _) (by rw [calC_size (wkOf_len u)]; exact sz38)) ?_
      refine x_if [] rfl rfl rfl rfl rfl (fun hg => by obtain ⟨hg0, _⟩ := hg; (try simp only [List.cons_append, List.nil_append, gvl_nil, gvl_t, gvl_f]); exact v_move rfl) ?_
      refine x_if [] rfl rfl rfl rfl rfl (fun hg => by obtain ⟨hg0, _⟩ := hg; (try simp only [List.cons_append, List.nil_append, gvl_nil, gvl_t, gvl_f]); exact v_move rfl) ?_
      refine x_call_if [] rfl rfl rfl rfl rfl Tryd.func25 (by kernel_rfl) (fun hg => by obtain ⟨hg0, _⟩ := hg; (try simp only [List.cons_append, List.nil_append, gvl_nil, gvl_t, gvl_f]); refine ⟨_, rfl, ?_⟩; exact fun w1 hw1 => c25 (wk := wkOf u) (v := (.slice A17 (madeD near l).length c17)) _ _ w1 (keep_new hrd17 hw1 (.head _) hm17) (wkOf_len u) (madeD_len near l)) ?_
      refine x_ifb [] rfl rfl rfl rfl rfl (fun hg => by obtain ⟨hg0, _⟩ := hg; (try simp only [List.cons_append, List.nil_append, gvl_nil, gvl_t, gvl_f]); exact v_eql rfl rfl) ?_
      intro b79 hb79
      obtain rfl : b79 = true := hb79.trans (decide_eq_true (cntP_add _ _ h1 h2))
      refine x_bool rfl rfl rfl (v_and rfl rfl) ?_
      intro b80 hb80
      obtain rfl : b80 = true := hb80
      refine x_val rfl rfl rfl (v_move rfl) ?_
      refine x_if [] rfl rfl rfl rfl rfl (fun hg => by obtain ⟨hg0, _⟩ := hg; (try simp only [List.cons_append, List.nil_append, gvl_nil, gvl_t, gvl_f]); exact v_load_blk (e := 38) (fz := (0, 0)) (cs := (calC (wkOf u) (.slice A17 (madeD near l).length c17)).toArray) Tryd.underlying38 rfl rfl (.head _) (by rw [calC_size (wkOf_len u)]; exact sz38)) ?_
      refine x_if [] rfl rfl rfl rfl rfl (fun hg => by obtain ⟨hg0, _⟩ := hg; (try simp only [List.cons_append, List.nil_append, gvl_nil, gvl_t, gvl_f]); exact v_move rfl) ?_
      refine x_if [] rfl rfl rfl rfl rfl (fun hg => by obtain ⟨hg0, _⟩ := hg; (try simp only [List.cons_append, List.nil_append, gvl_nil, gvl_t, gvl_f]); exact v_move rfl) ?_
      refine x_call_if [] rfl rfl rfl rfl rfl Tryd.func25 (by kernel_rfl) (fun hg => by obtain ⟨hg0, _⟩ := hg; (try simp only [List.cons_append, List.nil_append, gvl_nil, gvl_t, gvl_f]); refine ⟨_, rfl, ?_⟩; exact fun w1 hw1 => c25 (wk := wkOf u) (v := (.slice A17 (madeD near l).length c17)) _ _ w1 (keep_new hrd17 hw1 (.head _) hm17) (wkOf_len u) (madeD_len near l)) ?_
      refine x_ifb [] rfl rfl rfl rfl rfl (fun hg => by obtain ⟨hg0, _⟩ := hg; (try simp only [List.cons_append, List.nil_append, gvl_nil, gvl_t, gvl_f]); exact v_eql rfl rfl) ?_
      intro b86 hb86
      obtain rfl : b86 = true := hb86.trans (decide_eq_true (cntP_zero _ _ (Int.le_refl _)))
      refine x_bool rfl rfl rfl (v_and rfl rfl) ?_
      intro b87 hb87
      obtain rfl : b87 = true := hb87
      refine x_val rfl rfl rfl (v_move rfl) ?_
      refine x_if [] rfl rfl rfl rfl rfl (fun hg => by obtain ⟨hg0, _⟩ := hg; (try simp only [List.cons_append, List.nil_append, gvl_nil, gvl_t, gvl_f]); exact v_load_blk (e := 38) (fz := (0, 0)) (cs := (calC (wkOf u) (.slice A17 (madeD near l).length c17)).toArray) Tryd.underlying38 rfl rfl (.head _) (by rw [calC_size (wkOf_len u)]; exact sz38)) ?_
      refine x_if [] rfl rfl rfl rfl rfl (fun hg => by obtain ⟨hg0, _⟩ := hg; (try simp only [List.cons_append, List.nil_append, gvl_nil, gvl_t, gvl_f]); exact v_move rfl) ?_
      refine x_if [] rfl rfl rfl rfl rfl (fun hg => by obtain ⟨hg0, _⟩ := hg; (try simp only [List.cons_append, List.nil_append, gvl_nil, gvl_t, gvl_f]); exact v_move rfl) ?_
      refine x_if [] rfl rfl rfl rfl rfl (fun hg => by obtain ⟨hg0, _⟩ := hg; (try simp only [List.cons_append, List.nil_append, gvl_nil, gvl_t, gvl_f]); exact v_subi rfl rfl rfl (by first | omega | (dsimp only; omega))) ?_
      refine x_call_if [] rfl rfl rfl rfl rfl Tryd.func25 (by kernel_rfl) (fun hg => by obtain ⟨hg0, _⟩ := hg; (try simp only [List.cons_append, List.nil_append, gvl_nil, gvl_t, gvl_f]); refine ⟨_, rfl, ?_⟩; exact fun w1 hw1 => c25 (wk := wkOf u) (v := (.slice A17 (madeD near l).length c17)) _ _ w1 (keep_new hrd17 hw1 (.head _) hm17) (wkOf_len u) (madeD_len near l)) ?_
      refine x_ifb [] rfl rfl rfl rfl rfl (fun hg => by obtain ⟨hg0, _⟩ := hg; (try simp only [List.cons_append, List.nil_append, gvl_nil, gvl_t, gvl_f]); exact v_eql rfl rfl) ?_
      intro b94 hb94
      obtain rfl : b94 = true := hb94.trans (decide_eq_true (cntP_zero _ _ (by omega)))
      refine x_bool rfl rfl rfl (v_and rfl rfl) ?_
      intro b95 hb95
      obtain rfl : b95 = true := hb95
      refine x_val rfl rfl rfl (v_assign rfl) ?_
      refine x_end ?_
      refine t_norm ?_
      refine w_ret ?_
      refine ret1 rfl rfl (fun w' hm => ⟨?_, hm.base (by simp)⟩)
      rfl

end Go.Proofs.YtffdbbcmibamjaaDoor
