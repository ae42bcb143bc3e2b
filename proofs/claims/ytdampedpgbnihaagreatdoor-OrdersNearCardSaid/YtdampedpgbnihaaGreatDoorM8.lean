/- Of the proofs of YtdampedpgbnihaaGreatDoor: Yl Xx, put together. -/
import Derived.Test.YtdampedpgbnihaaGreatDoorM7
import Derived.Test.YtdampedpgbnihaaGreatDoorM5
import Derived.Lay
import Derived.LaidSub
import Derived.Lib.LaidTab
import Derived.Stop.LaidErr
import Derived.Deep.DeepHandedRow
import Derived.SevenTiedAt
import Derived.Test.YtdampedpgbnihaaGreatDoorM2
import Derived.Test.YtdampedpgbnihaaGreatDoorM1
import Derived.Test.YtdampedpgbnihaaGreatDoorM3
import Derived.Test.YtdampedpgbnihaaGreatDoorM4
import Derived.Test.YtdampedpgbnihaaGreatDoorM6
namespace Go.Proofs.YtdampedpgbnihaaGreatDoor
open Go.RowKit Go.PK
set_option linter.unusedVariables false
set_option linter.unusedSimpArgs false
def wantN (P R T N : Int) : Int := if N > 3 then 1 else if 1000 * max (R - P) (P - R) > max T 0 * P then 61 else if N * R > 70000 then 60 else 0
theorem near_ans {P R T N : Int} (hP : 0 ≤ P ∧ P < 20000) (hR : 0 ≤ R ∧ R < 30000) (hT : -20 ≤ T ∧ T < 680) (hN : 1 ≤ N ∧ N ≤ 5) : ∃ c E PR PC : Int, answerP ⟨⟨70000, 0, 3 * P⟩, min (max T 0) 1000000, some (placedO (yO 3 P), P)⟩ (yO N R) 0 = (c, ⟨⟨70000, 0, E⟩, min (max T 0) 1000000, some ({ placedO (yO 3 P) with prom := PR, price := PC }, P)⟩) ∧
    ((c ≠ 0 ∧ c = wantN P R T N ∧ E = 3 * P ∧ PR = 3 ∧ PC = P) ∨ (c = 0 ∧ wantN P R T N = 0 ∧ E = N * R ∧ PR = N ∧ PC = R)) := by
  have htol : min (max T 0) 1000000 = max T 0 := by omega
  have hNR : 0 ≤ N * R := Int.mul_nonneg (by omega) hR.1
  have e1 : lookO ⟨⟨70000, 0, 3 * P⟩, min (max T 0) 1000000, some (placedO (yO 3 P), P)⟩ (yO N R).id = some (placedO (yO 3 P), P) := if_pos rfl
  have e2 : resP (placedO (yO 3 P)) = 3 * P := by show (3 - 0) * P = _; rfl
  have e3 : resP (answO (placedO (yO 3 P)) (yO N R)) = N * R := by show (N - 0) * R = _; rw [Int.sub_zero]
  unfold answerP wantN
  rw [if_neg (by decide), e1]
  dsimp only
  rw [if_neg (show ¬((placedO (yO 3 P)).st ≠ 0 ∨ (placedO (yO 3 P)).paid ≠ 0) from fun q => by rcases q with q | q <;> exact q rfl)]
  by_cases hN3 : N > 3
  · rw [if_pos (show ((placedO (yO 3 P)).fund ≠ (yO N R).fund ∨ ¬((placedO (yO 3 P)).src = (yO N R).src ∧ (placedO (yO 3 P)).num = (yO N R).num)) ∨ (yO N R).copies > (placedO (yO 3 P)).copies from .inr hN3), if_pos hN3]
    exact ⟨1, 3 * P, 3, P, rfl, .inl ⟨by decide, rfl, rfl, rfl, rfl⟩⟩
  · rw [if_neg (show ¬(((placedO (yO 3 P)).fund ≠ (yO N R).fund ∨ ¬((placedO (yO 3 P)).src = (yO N R).src ∧ (placedO (yO 3 P)).num = (yO N R).num)) ∨ (yO N R).copies > (placedO (yO 3 P)).copies) from fun q => by
      rcases q with (q | q) | q
      · exact q rfl
      · exact q ⟨rfl, rfl⟩
      · exact hN3 q), if_neg hN3]
    have hn : nearP (min (max T 0) 1000000) (yO N R).price P ↔ ¬1000 * max (R - P) (P - R) > max T 0 * P := by
      unfold nearP; rw [htol]; show 1000 * max (R - P) (P - R) ≤ max T 0 * P ↔ _; omega
    by_cases hb : 1000 * max (R - P) (P - R) > max T 0 * P
    · rw [if_pos (fun q => (hn.1 q) hb), if_pos hb]
      exact ⟨61, 3 * P, 3, P, rfl, .inl ⟨by decide, rfl, rfl, rfl, rfl⟩⟩
    · rw [if_neg (fun q => q (hn.2 hb)), if_neg hb, e2, e3]
      by_cases hm : N * R > 70000
      · have hp : postA ⟨70000, 0, 3 * P⟩ (3 * P) (N * R) = (60, ⟨70000, 0, 3 * P⟩) := by
          unfold postA encP FSt.free; dsimp only
          rw [if_pos (by omega), if_neg (by omega), if_pos (by omega)]
        rw [hp, if_pos hm, if_pos (show (60 : Int) ≠ 0 by decide)]
        exact ⟨60, 3 * P, 3, P, rfl, .inl ⟨by decide, rfl, rfl, rfl, rfl⟩⟩
      · have hp : postA ⟨70000, 0, 3 * P⟩ (3 * P) (N * R) = (0, ⟨70000, 0, N * R⟩) := by
          unfold postA
          by_cases hg : N * R > 3 * P
          · unfold encP FSt.free; dsimp only
            rw [if_pos hg, if_neg (by omega), if_neg (by omega), show 3 * P + (N * R - 3 * P) = N * R by omega]
          · unfold relP; dsimp only
            rw [if_neg hg, if_neg (by omega), if_neg (by omega), show 3 * P - (3 * P - N * R) = N * R by omega]
        rw [hp, if_neg hm, if_neg (show ¬(0 : Int) ≠ 0 by decide)]
        exact ⟨0, N * R, N, R, rfl, .inr ⟨rfl, rfl, rfl, rfl, rfl⟩⟩
theorem mod_b (n : Int) {m : Int} (h : 0 < m) : 0 ≤ n % m ∧ n % m < m := ⟨Int.emod_nonneg n (by omega), Int.emod_lt_of_pos n h⟩
theorem ordR_y {P : Int} (hP : 0 ≤ P ∧ P < 20000) : ordR (placedO (yO 3 P)) := by
  unfold ordR placedO yO; dsimp only; omega
set_option maxHeartbeats 4000000 in
set_option maxRecDepth 100000 in
theorem lawNear (price other q0 q1 : Int) (w : World) (hi : in64 price ∧ in64 other ∧ in64 q0 ∧ in64 q1) (hL : LD w) :
    Calls Tryz.prog 3 #[.int .i64 price, .int .i64 other, .agg #[.int .i64 q0, .int .i64 q1]] w fun e w' => e = .returned (.bool (true)) ∧ Later w w' := by
  refine enter (vs := [.int .i64 price, .int .i64 other, .agg #[.int .i64 q0, .int .i64 q1]]) Tryz.func3 rfl Tryz.ntmps3 rfl ?_
  refine w_seq ?_
  refine rg_text ?_
  refine x_box rfl rfl rfl rfl ?_
  intro p5
  refine x_val rfl rfl rfl (v_assign rfl) ?_
  refine x_end ?_
  refine t_norm ?_
  refine w_seq ?_
  refine rg_text ?_
  refine x_callb rfl rfl rfl Tryz.func6 (by kernel_rfl) rfl (fun w1 hw1 => c_sane w1 (hL.later (hw1.base (by simp)))) ?_
  intro b19 hb19
  obtain rfl : b19 = true := hb19
  refine x_val rfl rfl rfl (v_assign rfl) ?_
  refine x_end ?_
  refine t_norm ?_
  refine w_seq ?_
  refine rg_text ?_
  refine x_val rfl rfl rfl (v_move rfl) ?_
  obtain ⟨P, hP⟩ : ∃ x, price % 20000 = x := ⟨_, rfl⟩
  have hbP := mod_b price (m := 20000) (by decide)
  rw [hP] at hbP
  refine x_callv (v := Value.int .i64 P) rfl rfl rfl Tryz.func7 (by kernel_rfl) rfl (fun w1 hw1 => by have h := c_Md price 20000 w1 hi.1 (by decide); rw [hP] at h; exact h) ?_
  refine x_val rfl rfl rfl (v_assign rfl) ?_
  refine x_end ?_
  refine t_norm ?_
  refine w_seq ?_
  refine rg_text ?_
  refine x_val rfl rfl rfl (v_move rfl) ?_
  obtain ⟨R, hR⟩ : ∃ x, other % 30000 = x := ⟨_, rfl⟩
  have hbR := mod_b other (m := 30000) (by decide)
  rw [hR] at hbR
  refine x_callv (v := Value.int .i64 R) rfl rfl rfl Tryz.func7 (by kernel_rfl) rfl (fun w1 hw1 => by have h := c_Md other 30000 w1 hi.2.1 (by decide); rw [hR] at h; exact h) ?_
  refine x_val rfl rfl rfl (v_assign rfl) ?_
  refine x_end ?_
  refine t_norm ?_
  refine w_seq ?_
  refine rg_text ?_
  refine x_val rfl rfl rfl (v_indexArr (j := 0) (off' := 0) Tryz.underlying22 sz3 rfl rfl (by first | omega | (dsimp only; omega)) rfl) ?_
  refine x_val rfl rfl rfl (v_load Tryz.underlying3 rfl rfl (at_ownL (vs := [Value.int .i64 q0, .int .i64 q1]) (.head _) rfl)) ?_
  obtain ⟨T0, hT0⟩ : ∃ x, q0 % 700 = x := ⟨_, rfl⟩
  have hbT0 := mod_b q0 (m := 700) (by decide)
  rw [hT0] at hbT0
  refine x_callv (v := Value.int .i64 T0) rfl rfl rfl Tryz.func7 (by kernel_rfl) rfl (fun w1 hw1 => by have h := c_Md q0 700 w1 hi.2.2.1 (by decide); rw [hT0] at h; exact h) ?_
  obtain ⟨T, hT⟩ : ∃ x, T0 - 20 = x := ⟨_, rfl⟩
  refine x_val rfl rfl rfl (v_subi (c := T) rfl rfl (by omega) (by omega)) ?_
  refine x_val rfl rfl rfl (v_assign rfl) ?_
  refine x_end ?_
  refine t_norm ?_
  refine w_seq ?_
  refine rg_text ?_
  refine x_val rfl rfl rfl (v_indexArr (j := 1) (off' := 1) Tryz.underlying22 sz3 rfl rfl (by first | omega | (dsimp only; omega)) rfl) ?_
  refine x_val rfl rfl rfl (v_load Tryz.underlying3 rfl rfl (at_ownL (vs := [Value.int .i64 q0, .int .i64 q1]) (.head _) rfl)) ?_
  obtain ⟨N0, hN0⟩ : ∃ x, q1 % 5 = x := ⟨_, rfl⟩
  have hbN0 := mod_b q1 (m := 5) (by decide)
  rw [hN0] at hbN0
  refine x_callv (v := Value.int .i64 N0) rfl rfl rfl Tryz.func7 (by kernel_rfl) rfl (fun w1 hw1 => by have h := c_Md q1 5 w1 hi.2.2.2 (by decide); rw [hN0] at h; exact h) ?_
  obtain ⟨N, hN⟩ : ∃ x, 1 + N0 = x := ⟨_, rfl⟩
  refine x_val rfl rfl rfl (v_addi (c := N) rfl rfl (by omega) (by omega)) ?_
  refine x_val rfl rfl rfl (v_assign rfl) ?_
  refine x_end ?_
  refine t_norm ?_
  refine w_seq ?_
  refine rg_text ?_
  refine x_val rfl rfl rfl (v_move rfl) ?_
  refine x_val rfl rfl rfl (v_move rfl) ?_
  have hP : 0 ≤ P ∧ P < 20000 := hbP
  have hm64 : 0 ≤ max T 0 * P ∧ max T 0 * P ≤ 700 * 20000 := ⟨Int.mul_nonneg (by omega) hP.1, Int.mul_le_mul (by omega) (by omega) hP.1 (by decide)⟩
  have hm69 : 0 ≤ N * R ∧ N * R ≤ 5 * 30000 := ⟨Int.mul_nonneg (by omega) hbR.1, Int.mul_le_mul (by omega) (by omega) hbR.1 (by decide)⟩
  refine x_own (τ := Nat × Nat × Nat × Nat × Nat × Array MapEntry × Nat × Array MapEntry × Nat) (fun x => .tuple #[.pointer (some ⟨x.2.2.2.1, 0, none⟩), .pointer (some ⟨x.2.2.1, 0, none⟩), .int .i64 0]) (fun x => MapF Tryz.prog 3 x.2.2.2.2.2.1 (fF x.1) ∧ MapF Tryz.prog 3 x.2.2.2.2.2.2.2.1 (fO (some ((placedO (yO 3 P)), P)))) (fun x => (x.2.2.2.1, Obj.cells (orC x.2.2.1 (min (max T 0) 1000000) x.2.2.2.2.1).toArray 58) :: (x.2.2.2.2.1, Obj.map x.2.2.2.2.2.2.2.1 x.2.2.2.2.2.2.2.2) :: (x.1, Obj.cells (fxC ⟨70000, 0, 3 * P⟩).toArray 88) :: (x.2.1, Obj.map x.2.2.2.2.2.1 x.2.2.2.2.2.2.1) :: (x.2.2.1, Obj.cells (fnC x.2.1 70000).toArray 83) :: [(p5, Obj.cells [Value.int .i64 q0, .int .i64 q1].toArray 22)]) rfl rfl rfl Tryz.func8 (by kernel_rfl) rfl (fun w1 hw1 => (c_One 70000 T P w1 (hL.later (hw1.base (by simp))) ⟨hP.1, by omega⟩ ⟨by omega, by decide⟩).mono fun e w2 ⟨x, h1, h2, h3⟩ => ⟨x, h1, h3.base (by simp), h2, hw1.join2 h3⟩) ?_
  rintro ⟨pX, mF, pF, pO, mO, esF, ckF, esO, ckO⟩ ⟨hF, hO⟩
  dsimp only at hF hO
  refine x_val rfl rfl rfl (v_move rfl) ?_
  refine x_val rfl rfl rfl (v_extract rfl rfl) ?_
  refine x_val rfl rfl rfl (v_extract rfl rfl) ?_
  refine x_val rfl rfl rfl (v_extract rfl rfl) ?_
  refine x_val rfl rfl rfl (v_assign rfl) ?_
  refine x_val rfl rfl rfl (v_assign rfl) ?_
  refine x_val rfl rfl rfl (v_assign rfl) ?_
  refine x_end ?_
  refine t_norm ?_
  refine w_seq ?_
  refine w_seq ?_
  refine rg_text ?_
  refine x_val rfl rfl rfl (v_move rfl) ?_
  refine x_bool rfl rfl rfl (v_pnil (o := some ⟨pO, 0, none⟩) Tryz.underlying25 rfl rfl) ?_
  intro b40 hb40
  obtain rfl : b40 = false := hb40
  refine x_val rfl rfl rfl (v_move rfl) ?_
  refine x_valg rfl rfl rfl rfl rfl (v_move rfl) ?_
  refine x_boolg rfl rfl rfl rfl rfl (v_pnil (o := some ⟨pF, 0, none⟩) Tryz.underlying26 rfl rfl) ?_
  intro b43 hb43
  obtain rfl : b43 = false := hb43
  refine x_bool rfl rfl rfl (v_or rfl rfl) ?_
  intro b44 hb44
  obtain rfl : b44 = false := hb44
  refine x_val rfl rfl rfl (v_move rfl) ?_
  refine x_valg rfl rfl rfl rfl rfl (v_move rfl) ?_
  refine x_boolg rfl rfl rfl rfl rfl (v_neq rfl rfl) ?_
  intro b47 hb47
  obtain rfl : b47 = false := hb47
  refine x_bool rfl rfl rfl (v_or rfl rfl) ?_
  intro b48 hb48
  obtain rfl : b48 = false := hb48
  refine x_end ?_
  refine t_norm ?_
  refine w_cond rfl (fun hc48 => ?_) (fun hc48 => ?_)
  · cases hc48
  · skip
    refine w_skip ?_
    refine t_norm ?_
    refine w_seq ?_
    refine rg_text ?_
    refine x_val rfl rfl rfl (v_assign rfl) ?_
    refine x_end ?_
    refine t_norm ?_
    refine w_seq_cut (σ := Int) (fun z => z = wantN P R T N) (fun z => [(5, Value.pointer (some ⟨p5, 0, none⟩)), (7, Value.bool true), (8, Value.int .i64 P), (9, Value.int .i64 R), (10, Value.int .i64 T), (11, Value.int .i64 N), (12, Value.pointer (some ⟨pO, 0, none⟩)), (13, Value.pointer (some ⟨pF, 0, none⟩)), (15, Value.int .i64 z)]) (fun z => (pO, Obj.cells (orC pF (min (max T 0) 1000000) mO).toArray 58) :: (mO, Obj.map esO ckO) :: (pX, Obj.cells (fxC ⟨70000, 0, 3 * P⟩).toArray 88) :: (mF, Obj.map esF ckF) :: (pF, Obj.cells (fnC mF 70000).toArray 83) :: [(p5, Obj.cells [Value.int .i64 q0, .int .i64 q1].toArray 22)]) (fun z => [(w, fun _ => True)]) ?_ ?_
    · refine w_block ?_
      refine w_seq ?_
      refine rg_text ?_
      refine x_val rfl rfl rfl (v_move rfl) ?_
      refine x_bool rfl rfl rfl (v_gtr rfl rfl) ?_
      intro b51 hb51
      refine x_val rfl rfl rfl (v_assign rfl) ?_
      refine x_end ?_
      refine t_norm ?_
      refine w_cond rfl (fun hc49 => ?_) (fun hc49 => ?_)
      · simp only [hb51, decide_eq_true_eq, decide_eq_false_iff_not, Bool.and_eq_true, Bool.or_eq_true, Bool.and_eq_false_iff, Bool.or_eq_false_iff, Bool.not_eq_true', Bool.not_eq_false', ne_eq, Decidable.not_not] at hc49
        refine rg_text ?_
        refine x_val rfl rfl rfl (v_assign rfl) ?_
        refine x_end ?_
        refine b_norm ?_
        exact c_norm _ (show _ = wantN P R T N from by unfold wantN; rw [if_pos (by omega)]) (by repeat (first | exact Sub.nil | refine Sub.cons rfl ?_)) (fun _ h => h)
      · simp only [hb51, decide_eq_true_eq, decide_eq_false_iff_not, Bool.and_eq_true, Bool.or_eq_true, Bool.and_eq_false_iff, Bool.or_eq_false_iff, Bool.not_eq_true', Bool.not_eq_false', ne_eq, Decidable.not_not] at hc49
        refine w_seq ?_
        refine rg_text ?_
        refine x_val rfl rfl rfl (v_move rfl) ?_
        refine x_val rfl rfl rfl (v_move rfl) ?_
        refine x_val rfl rfl rfl (v_subi rfl rfl rfl (by first | omega | (dsimp only; omega))) ?_
        refine x_val rfl rfl rfl (v_move rfl) ?_
        refine x_val rfl rfl rfl (v_move rfl) ?_
        refine x_val rfl rfl rfl (v_subi rfl rfl rfl (by first | omega | (dsimp only; omega))) ?_
        refine x_val (v := Value.int .i64 (max (R - P) (P - R))) rfl rfl rfl (v_max rfl rfl) ?_
        refine x_val rfl rfl rfl (v_muli rfl rfl rfl (by first | omega | (dsimp only; omega))) ?_
        refine x_val rfl rfl rfl (v_move rfl) ?_
        refine x_val (v := Value.int .i64 (max T 0)) rfl rfl rfl (v_max rfl rfl) ?_
        refine x_val rfl rfl rfl (v_move rfl) ?_
        refine x_val rfl rfl rfl (v_muli rfl rfl rfl (by first | omega | (dsimp only; omega))) ?_
        refine x_bool rfl rfl rfl (v_gtr rfl rfl) ?_
        intro b65 hb65
        refine x_val rfl rfl rfl (v_assign rfl) ?_
        refine x_end ?_
        refine t_norm ?_
        refine w_cond rfl (fun hc52 => ?_) (fun hc52 => ?_)
        · simp only [hb65, decide_eq_true_eq, decide_eq_false_iff_not, Bool.and_eq_true, Bool.or_eq_true, Bool.and_eq_false_iff, Bool.or_eq_false_iff, Bool.not_eq_true', Bool.not_eq_false', ne_eq, Decidable.not_not] at hc52
          refine rg_text ?_
          refine x_val rfl rfl rfl (v_assign rfl) ?_
          refine x_end ?_
          refine b_norm ?_
          exact c_norm _ (show _ = wantN P R T N from by unfold wantN; rw [if_neg (by omega), if_pos (by omega)]) (by repeat (first | exact Sub.nil | refine Sub.cons rfl ?_)) (fun _ h => h)
        · simp only [hb65, decide_eq_true_eq, decide_eq_false_iff_not, Bool.and_eq_true, Bool.or_eq_true, Bool.and_eq_false_iff, Bool.or_eq_false_iff, Bool.not_eq_true', Bool.not_eq_false', ne_eq, Decidable.not_not] at hc52
          refine w_seq ?_
          refine rg_text ?_
          refine x_val rfl rfl rfl (v_move rfl) ?_
          refine x_val rfl rfl rfl (v_move rfl) ?_
          refine x_val rfl rfl rfl (v_muli rfl rfl rfl (by first | omega | (dsimp only; omega))) ?_
          refine x_bool rfl rfl rfl (v_gtr rfl rfl) ?_
          intro b70 hb70
          refine x_val rfl rfl rfl (v_assign rfl) ?_
          refine x_end ?_
          refine t_norm ?_
          refine w_cond rfl (fun hc66 => ?_) (fun hc66 => ?_)
          · simp only [hb70, decide_eq_true_eq, decide_eq_false_iff_not, Bool.and_eq_true, Bool.or_eq_true, Bool.and_eq_false_iff, Bool.or_eq_false_iff, Bool.not_eq_true', Bool.not_eq_false', ne_eq, Decidable.not_not] at hc66
            refine rg_text ?_
            refine x_val rfl rfl rfl (v_assign rfl) ?_
            refine x_end ?_
            refine b_norm ?_
            exact c_norm _ (show _ = wantN P R T N from by unfold wantN; rw [if_neg (by omega), if_neg (by omega), if_pos (by omega)]) (by repeat (first | exact Sub.nil | refine Sub.cons rfl ?_)) (fun _ h => h)
          · simp only [hb70, decide_eq_true_eq, decide_eq_false_iff_not, Bool.and_eq_true, Bool.or_eq_true, Bool.and_eq_false_iff, Bool.or_eq_false_iff, Bool.not_eq_true', Bool.not_eq_false', ne_eq, Decidable.not_not] at hc66
            refine w_skip ?_
            refine b_norm ?_
            exact c_norm _ (show _ = wantN P R T N from by unfold wantN; rw [if_neg (by omega), if_neg (by omega), if_neg (by omega)]) (by repeat (first | exact Sub.nil | refine Sub.cons rfl ?_)) (fun _ h => h)
    · rintro z hz
      refine w_state ([(5, Value.pointer (some ⟨p5, 0, none⟩)), (7, Value.bool true), (8, Value.int .i64 P), (9, Value.int .i64 R), (10, Value.int .i64 T), (11, Value.int .i64 N), (12, Value.pointer (some ⟨pO, 0, none⟩)), (13, Value.pointer (some ⟨pF, 0, none⟩)), (15, Value.int .i64 z)]) ((pO, Obj.cells (orC pF (min (max T 0) 1000000) mO).toArray 58) :: (mO, Obj.map esO ckO) :: (pX, Obj.cells (fxC ⟨70000, 0, 3 * P⟩).toArray 88) :: (mF, Obj.map esF ckF) :: (pF, Obj.cells (fnC mF 70000).toArray 83) :: [(p5, Obj.cells [Value.int .i64 q0, .int .i64 q1].toArray 22)]) ([(w, fun _ => True)]) ?_
      refine w_seq ?_
      refine rg_text ?_
      refine x_val rfl rfl rfl (v_move rfl) ?_
      refine x_val rfl rfl rfl (v_move rfl) ?_
      refine x_val rfl rfl rfl (v_move rfl) ?_
      refine x_callv rfl rfl rfl Tryz.func10 (by kernel_rfl) rfl (fun w1 hw1 => c_ans N R w1 (by omega) (by omega)) ?_
      obtain ⟨c, E, PR, PC, hans, hcase⟩ := near_ans hP hbR (show -20 ≤ T ∧ T < 680 by omega) (show 1 ≤ N ∧ N ≤ 5 by omega)
      rw [← hz] at hcase
      clear hz
      obtain ⟨_, af1, af2, af3, af4⟩ := ans_facts (n := N) (r := R) (by omega) (by omega)
      refine x_turnf (τ := Array MapEntry × Nat) (v := Value.int .i64 c) (fun q => MapF Tryz.prog 3 q.1 (fO (some ({ placedO (yO 3 P) with prom := PR, price := PC }, P)))) (fun q => (pO, Obj.cells (orC pF (min (max T 0) 1000000) mO).toArray 58) :: (mO, Obj.map q.1 q.2) :: (pX, Obj.cells (fxC ⟨70000, 0, E⟩).toArray 88) :: (mF, Obj.map esF ckF) :: (pF, Obj.cells (fnC mF 70000).toArray 83) :: [(p5, Obj.cells [Value.int .i64 q0, .int .i64 q1].toArray 22)]) rfl rfl Tryz.func9 (by kernel_rfl) rfl (fun w1 hw1 => by
        have h := c_Answer (L := [(p5, Obj.cells [Value.int .i64 q0, .int .i64 q1].toArray 22)]) hw1 hF hO (by unfold fundOK; dsimp only; omega) (by omega) (ordR_y hP) ⟨hP.1, by omega⟩ (by simp) hL (ansT N R) af1 af2 af3 (yO N R) af4 rfl ⟨by show (0 : Int) ≤ R; omega, by show R ≤ (999999999 : Int); omega⟩ ⟨by show (0 : Int) ≤ N; omega, by show N ≤ (9999 : Int); omega⟩
        rw [hans] at h
        exact h) ?_
      rintro ⟨es75, ck75⟩ hO75
      dsimp only at hO75
      refine x_val rfl rfl rfl (v_assign rfl) ?_
      refine x_end ?_
      refine t_norm ?_
      refine w_seq ?_
      refine rg_text ?_
      refine x_val rfl rfl rfl (v_move rfl) ?_
      refine x_callv (v := Value.tuple #[.agg ({ placedO (yO 3 P) with prom := PR, price := PC }).cells.toArray, .bool true]) rfl rfl rfl Tryz.func11 (by kernel_rfl) rfl (fun w1 hw1 => c_Ord w1 (at_ownL (vs := orC pF (min (max T 0) 1000000) mO) (.head _) rfl w1 hw1) (hw1.own_at (mO, _) (.tail _ (.head _))) hO75) ?_
      refine x_val rfl rfl rfl (v_move rfl) ?_
      refine x_val rfl rfl rfl (v_extract rfl rfl) ?_
      refine x_bool rfl rfl rfl (v_extract rfl rfl) ?_
      intro b80 hb80
      refine x_alloc rfl rfl rfl zr35 ?_
      intro p17
      refine x_store0 [] rfl rfl rfl rfl sz35 rfl rfl ?_
      refine x_val rfl rfl rfl (v_assign rfl) ?_
      refine x_end ?_
      refine t_norm ?_
      refine w_seq ?_
      refine w_seq ?_
      refine rg_text ?_
      refine x_val rfl rfl rfl (v_move rfl) ?_
      refine x_bool rfl rfl rfl (v_neq rfl rfl) ?_
      intro b82 hb82
      refine x_end ?_
      refine t_norm ?_
      refine w_cond rfl (fun hc82 => ?_) (fun hc82 => ?_)
      · simp only [hb82, decide_eq_true_eq, decide_eq_false_iff_not, Bool.and_eq_true, Bool.or_eq_true, Bool.and_eq_false_iff, Bool.or_eq_false_iff, Bool.not_eq_true', Bool.not_eq_false', ne_eq, Decidable.not_not] at hc82
        obtain ⟨k1, k2, k3, k4⟩ : c = z ∧ E = 3 * P ∧ PR = 3 ∧ PC = P := by rcases hcase with ⟨_, h⟩ | h; (· exact h); exact absurd h.1 hc82
        refine w_seq ?_
        refine rg_text ?_
        refine x_val rfl rfl rfl (v_move rfl) ?_
        refine x_val rfl rfl rfl (v_move rfl) ?_
        refine x_valg rfl rfl rfl rfl rfl (v_move rfl) ?_
        refine x_valg rfl rfl rfl rfl rfl (v_move rfl) ?_
        refine x_boolg rfl rfl rfl rfl rfl (v_eql rfl rfl) ?_
        intro b87 hb87
        obtain rfl : b87 = true := hb87.trans (decide_eq_true k1)
        refine x_bool rfl rfl rfl (v_and rfl rfl) ?_
        intro b88 hb88
        obtain rfl : b88 = true := hb88
        refine x_val rfl rfl rfl (v_move rfl) ?_
        refine x_valg rfl rfl rfl rfl rfl (v_fieldAddr (off' := 5) Tryz.underlying35 rfl sz3 (by decide) rfl rfl) ?_
        refine x_valg rfl rfl rfl rfl rfl (v_load Tryz.underlying3 rfl rfl (at_ownL (vs := ({ placedO (yO 3 P) with prom := PR, price := PC }).cells) (.head _) rfl)) ?_
        refine x_valg rfl rfl rfl rfl rfl (v_move rfl) ?_
        refine x_boolg rfl rfl rfl rfl rfl (v_eql rfl rfl) ?_
        intro b93 hb93
        obtain rfl : b93 = true := hb93.trans (decide_eq_true k4)
        refine x_bool rfl rfl rfl (v_and rfl rfl) ?_
        intro b94 hb94
        obtain rfl : b94 = true := hb94
        refine x_val rfl rfl rfl (v_move rfl) ?_
        refine x_valg rfl rfl rfl rfl rfl (v_fieldAddr (off' := 6) Tryz.underlying35 rfl sz3 (by decide) rfl rfl) ?_
        refine x_valg rfl rfl rfl rfl rfl (v_load Tryz.underlying3 rfl rfl (at_ownL (vs := ({ placedO (yO 3 P) with prom := PR, price := PC }).cells) (.head _) rfl)) ?_
        refine x_boolg rfl rfl rfl rfl rfl (v_eql rfl rfl) ?_
        intro b98 hb98
        obtain rfl : b98 = true := hb98.trans (decide_eq_true k3)
        refine x_bool rfl rfl rfl (v_and rfl rfl) ?_
        intro b99 hb99
        obtain rfl : b99 = true := hb99
        refine x_val rfl rfl rfl (v_move rfl) ?_
        refine x_valg rfl rfl rfl rfl rfl (v_move rfl) ?_
        refine x_valg rfl rfl rfl rfl rfl (v_move rfl) ?_
        refine x_valg rfl rfl rfl rfl rfl (v_muli rfl rfl rfl (by first | omega | (dsimp only; omega))) ?_
        refine x_callbg rfl rfl rfl rfl rfl Tryz.func12 (by kernel_rfl) rfl (fun w1 hw1 => c_has (f := ⟨70000, 0, E⟩) w1 (at_ownL (vs := fnC mF 70000) (.tail _ (.tail _ (.tail _ (.tail _ (.tail _ (.head _)))))) rfl w1 hw1) (hw1.own_at (mF, _) (.tail _ (.tail _ (.tail _ (.tail _ (.head _)))))) hF (fun i v hv => at_ownL (vs := fxC ⟨70000, 0, E⟩) (.tail _ (.tail _ (.tail _ (.head _)))) hv w1 hw1) (3 * P) (0)) ?_
        intro b104 hb104
        obtain rfl : b104 = true := hb104.trans (by dsimp only; rw [k2]; simp)
        refine x_bool rfl rfl rfl (v_and rfl rfl) ?_
        intro b105 hb105
        obtain rfl : b105 = true := hb105
        refine x_val rfl rfl rfl (v_assign rfl) ?_
        refine x_end ?_
        refine t_norm ?_
        refine w_ret ?_
        refine t_ret ?_
        exact ret1 rfl rfl (fun w' hm => ⟨rfl, hm.base (by simp)⟩)
      · simp only [hb82, decide_eq_true_eq, decide_eq_false_iff_not, Bool.and_eq_true, Bool.or_eq_true, Bool.and_eq_false_iff, Bool.or_eq_false_iff, Bool.not_eq_true', Bool.not_eq_false', ne_eq, Decidable.not_not] at hc82
        obtain ⟨k1, k2, k3, k4⟩ : z = 0 ∧ E = N * R ∧ PR = N ∧ PC = R := by rcases hcase with h | ⟨_, h⟩; (· exact absurd hc82 h.1); exact h
        refine w_skip ?_
        refine t_norm ?_
        refine w_seq ?_
        refine rg_text ?_
        refine x_val rfl rfl rfl (v_move rfl) ?_
        refine x_val rfl rfl rfl (v_move rfl) ?_
        refine x_valg rfl rfl rfl rfl rfl (v_move rfl) ?_
        refine x_boolg rfl rfl rfl rfl rfl (v_eql rfl rfl) ?_
        intro b109 hb109
        obtain rfl : b109 = true := hb109.trans (decide_eq_true k1)
        refine x_bool rfl rfl rfl (v_and rfl rfl) ?_
        intro b110 hb110
        obtain rfl : b110 = true := hb110
        refine x_val rfl rfl rfl (v_move rfl) ?_
        refine x_valg rfl rfl rfl rfl rfl (v_fieldAddr (off' := 5) Tryz.underlying35 rfl sz3 (by decide) rfl rfl) ?_
        refine x_valg rfl rfl rfl rfl rfl (v_load Tryz.underlying3 rfl rfl (at_ownL (vs := ({ placedO (yO 3 P) with prom := PR, price := PC }).cells) (.head _) rfl)) ?_
        refine x_valg rfl rfl rfl rfl rfl (v_move rfl) ?_
        refine x_boolg rfl rfl rfl rfl rfl (v_eql rfl rfl) ?_
        intro b115 hb115
        obtain rfl : b115 = true := hb115.trans (decide_eq_true k4)
        refine x_bool rfl rfl rfl (v_and rfl rfl) ?_
        intro b116 hb116
        obtain rfl : b116 = true := hb116
        refine x_val rfl rfl rfl (v_move rfl) ?_
        refine x_valg rfl rfl rfl rfl rfl (v_fieldAddr (off' := 6) Tryz.underlying35 rfl sz3 (by decide) rfl rfl) ?_
        refine x_valg rfl rfl rfl rfl rfl (v_load Tryz.underlying3 rfl rfl (at_ownL (vs := ({ placedO (yO 3 P) with prom := PR, price := PC }).cells) (.head _) rfl)) ?_
        refine x_valg rfl rfl rfl rfl rfl (v_move rfl) ?_
        refine x_boolg rfl rfl rfl rfl rfl (v_eql rfl rfl) ?_
        intro b121 hb121
        obtain rfl : b121 = true := hb121.trans (decide_eq_true k3)
        refine x_bool rfl rfl rfl (v_and rfl rfl) ?_
        intro b122 hb122
        obtain rfl : b122 = true := hb122
        refine x_val rfl rfl rfl (v_move rfl) ?_
        refine x_valg rfl rfl rfl rfl rfl (v_move rfl) ?_
        refine x_valg rfl rfl rfl rfl rfl (v_move rfl) ?_
        refine x_valg rfl rfl rfl rfl rfl (v_move rfl) ?_
        refine x_valg rfl rfl rfl rfl rfl (v_muli rfl rfl rfl (by first | omega | (dsimp only; omega))) ?_
        refine x_callbg rfl rfl rfl rfl rfl Tryz.func12 (by kernel_rfl) rfl (fun w1 hw1 => c_has (f := ⟨70000, 0, E⟩) w1 (at_ownL (vs := fnC mF 70000) (.tail _ (.tail _ (.tail _ (.tail _ (.tail _ (.head _)))))) rfl w1 hw1) (hw1.own_at (mF, _) (.tail _ (.tail _ (.tail _ (.tail _ (.head _)))))) hF (fun i v hv => at_ownL (vs := fxC ⟨70000, 0, E⟩) (.tail _ (.tail _ (.tail _ (.head _)))) hv w1 hw1) (N * R) (0)) ?_
        intro b128 hb128
        obtain rfl : b128 = true := hb128.trans (by dsimp only; rw [k2]; simp)
        refine x_bool rfl rfl rfl (v_and rfl rfl) ?_
        intro b129 hb129
        obtain rfl : b129 = true := hb129
        refine x_val rfl rfl rfl (v_assign rfl) ?_
        refine x_end ?_
        refine t_norm ?_
        refine w_ret ?_
        exact ret1 rfl rfl (fun w' hm => ⟨rfl, hm.base (by simp)⟩)

end Go.Proofs.YtdampedpgbnihaaGreatDoor

namespace Go.Proofs.YtdampedpgbnihaaGreatDoor
open Go.RowKit Go.PK
set_option linter.unusedVariables false
set_option linter.unusedSimpArgs false

def laidL : List (String × DataW Unit) := [("math/bits.deBruijn32tab", Rows.laid_math_bits_deBruijn32tab), ("math/bits.deBruijn64tab", Rows.laid_math_bits_deBruijn64tab), ("internal/strconv.uint64pow10", Rows.laid_internal_strconv_uint64pow10), ("unicode/utf8.acceptRanges", Rows.laid_unicode_utf8_acceptRanges), ("strconv.ErrRange", Rows.laid_strconv_ErrRange), ("strconv.ErrSyntax", Rows.laid_strconv_ErrSyntax), ("unicode/utf8.first", Rows.laid_unicode_utf8_first)]
theorem noHandle {W : World} (h : laidMetH Tryz.prog laidL W) : laidMet Tryz.prog laidL W := by
  have h1 := (laidMetH_iff.1 h).1
  rwa [show (laidL.filter fun x => x.2.handleName?.isNone) = laidL from by kernel_rfl] at h1
theorem laid_tab {W : World} (h : laidMet Tryz.prog laidL W) : Lib.TabIs Tryz.prog W "internal/strconv.uint64pow10" .u64 Lib.pow10Tab := by
  have h1 := h.filter fun x => x.1 == "internal/strconv.uint64pow10"
  have e : (laidL.filter fun x => x.1 == "internal/strconv.uint64pow10") = [("internal/strconv.uint64pow10", Lib.tabData .u64 Lib.pow10Tab)] := by kernel_rfl
  rw [e] at h1
  exact Lib.tabIs_of_head (g := 3) (t := 196) (e := 169) (n := 20) (by kernel_rfl) (by kernel_rfl) (by kernel_rfl) (by kernel_rfl) (by kernel_rfl) (by kernel_rfl) h1
theorem star : "*" ++ "errors.errorString" = "*errors.errorString" := by decide
theorem row104 (u : TypeId) (h : Tryz.prog.typeName? 3 u = some "*errors.errorString") : u = 187 :=
  typeName_ptr_named (nm := "errors.errorString") (by rw [star]; kernel_rfl) (by kernel_rfl) (by decide) u (by rw [star]; exact h)
theorem laid_syn {W : World} (h : laidMet Tryz.prog laidL W) : ∃ tp p, W.var? Tryz.prog "strconv.ErrSyntax" = some #[.iface tp p] := by
  have h1 := h.filter fun x => x.1 == "strconv.ErrSyntax"
  have e : (laidL.filter fun x => x.1 == "strconv.ErrSyntax") = [("strconv.ErrSyntax", .iface "*errors.errorString" (.ptr (.agg [.lit (.string [105, 110, 118, 97, 108, 105, 100, 32, 115, 121, 110, 116, 97, 120])])))] := by kernel_rfl
  rw [e] at h1
  obtain ⟨a0, s0, hv0, _⟩ := laid_sentinel (g := 0) (ti := 127) (tp := 187) (te := 189) (ts := 9) h1 (by kernel_rfl) (by kernel_rfl) Tryz.underlying127 row104 Tryz.underlying187 Tryz.underlying189 rfl rfl Tryz.underlying9 (by kernel_rfl) (by kernel_rfl)
  exact ⟨_, _, hv0⟩
theorem laid_rng {W : World} (h : laidMet Tryz.prog laidL W) : ∃ tp p, W.var? Tryz.prog "strconv.ErrRange" = some #[.iface tp p] := by
  have h1 := h.filter fun x => x.1 == "strconv.ErrRange"
  have e : (laidL.filter fun x => x.1 == "strconv.ErrRange") = [("strconv.ErrRange", .iface "*errors.errorString" (.ptr (.agg [.lit (.string [118, 97, 108, 117, 101, 32, 111, 117, 116, 32, 111, 102, 32, 114, 97, 110, 103, 101])])))] := by kernel_rfl
  rw [e] at h1
  obtain ⟨a0, s0, hv0, _⟩ := laid_sentinel (g := 1) (ti := 127) (tp := 187) (te := 189) (ts := 9) h1 (by kernel_rfl) (by kernel_rfl) Tryz.underlying127 row104 Tryz.underlying187 Tryz.underlying189 rfl rfl Tryz.underlying9 (by kernel_rfl) (by kernel_rfl)
  exact ⟨_, _, hv0⟩

theorem ld_of {W : World} (h : laidMetH Tryz.prog laidL W) (hS : W.ShapedOpen Tryz.prog) : LD W := ⟨laid_tab (noHandle h), Tryz.laysM146.s1_3 W hS, laid_syn (noHandle h), laid_rng (noHandle h)⟩
theorem laid_met (os : Os) (args : Array Value) : laidMet Tryz.prog laidL ((World.laidAll Tryz.prog os laidL).forCall (fun _ _ => 0) ⟨#[], args, []⟩).memory :=
  laidMet_laidAll args (by kernel_rfl) (by kernel_rfl)
theorem bulk_one {H : Type} (d : DataW H) : 1 ≤ Rows.uptoBulk d := by
  cases d with
  | lit l => cases l <;> simp [Rows.uptoBulk]
  | nil => simp [Rows.uptoBulk]
  | ptr d => simp [Rows.uptoBulk]
  | slice elems spare => simp [Rows.uptoBulk]
  | agg parts => simp [Rows.uptoBulk]
  | iface t d => simp [Rows.uptoBulk]
  | map entries => simp [Rows.uptoBulk]
  | held h => simp [Rows.uptoBulk]
def meas (H : Type) : Meas H := ⟨Rows.uptoBulk, Rows.uptoBulkAll, fun _ => by simp [Rows.uptoBulk], fun _ _ => by simp [Rows.uptoBulk], fun _ => by simp [Rows.uptoBulk], fun _ _ => by simp [Rows.uptoBulkAll], bulk_one⟩

end Go.Proofs.YtdampedpgbnihaaGreatDoor
