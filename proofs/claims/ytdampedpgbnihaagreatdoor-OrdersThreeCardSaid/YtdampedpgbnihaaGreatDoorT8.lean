/- Of the proofs of YtdampedpgbnihaaGreatDoor: Ym Xx, put together. -/
import Derived.Test.YtdampedpgbnihaaGreatDoorT7
import Derived.Test.YtdampedpgbnihaaGreatDoorT5
import Derived.Lay
import Derived.LaidSub
import Derived.Lib.LaidTab
import Derived.Stop.LaidErr
import Derived.Deep.DeepHandedRow
import Derived.SevenTiedAt
import Derived.Test.YtdampedpgbnihaaGreatDoorT2
import Derived.Test.YtdampedpgbnihaaGreatDoorT1
import Derived.Test.YtdampedpgbnihaaGreatDoorT3
import Derived.Test.YtdampedpgbnihaaGreatDoorT4
import Derived.Test.YtdampedpgbnihaaGreatDoorT6
namespace Go.Proofs.YtdampedpgbnihaaGreatDoor
open Go.RowKit Go.PK
set_option linter.unusedVariables false
set_option linter.unusedSimpArgs false
def wantT (P R G N T M : Int) : Int := if N > G then 50 else if 1000 * max (R - P) (P - R) > T * P then 61 else if N * R > N * P + M - 3 * P then 60 else 0
def xG (P G PD : Int) : PK.Ord := { placedO (yO 3 P) with st := G, paid := PD }
theorem rec_three {P G M T : Int} (hG : 0 ≤ G ∧ G < 4) : receiveP ⟨⟨M, 0, 3 * P⟩, T, some (placedO (yO 3 P), P)⟩ 7 G = ((if G > 0 then 0 else 1), ⟨⟨M, 0, 3 * P⟩, T, some (xG P G 0, P)⟩) := by
  unfold receiveP lookO
  rw [if_pos rfl]
  show (if (0 : Int) = -1 then _ else if G < 1 ∨ G > 3 - 0 then _ else _) = _
  rw [if_neg (by omega)]
  by_cases h : G > 0
  · rw [if_neg (by omega), if_pos h]
    show (0, (⟨_, _, some ({ placedO (yO 3 P) with st := 0 + G }, P)⟩ : OSt)) = _
    rw [Int.zero_add]; rfl
  · have h0 : G = 0 := by omega
    subst h0
    rw [if_pos (by omega), if_neg h]; rfl
theorem inv_three {P R T N G M : Int} (hP : 0 ≤ P ∧ P < 20000) (hR : 0 ≤ R ∧ R < 30000) (hT : 0 ≤ T ∧ T < 900) (hN : 1 ≤ N ∧ N ≤ 4) (hG : 0 ≤ G ∧ G < 4) (hM : 3 * P ≤ M ∧ M ≤ 90000) : ∃ c SP E PD : Int, invoiceP ⟨⟨M, 0, 3 * P⟩, min (max T 0) 1000000, some (xG P G 0, P)⟩ (yB N R) = (c, ⟨⟨M, SP, E⟩, min (max T 0) 1000000, some (xG P G PD, P)⟩) ∧ (0 ≤ SP ∧ 0 ≤ E ∧ SP + E ≤ M) ∧ (0 ≤ PD ∧ PD ≤ 4) ∧
    ((c ≠ 0 ∧ c = wantT P R G N T M ∧ E = 3 * P ∧ SP = 0 ∧ PD = 0) ∨ (c = 0 ∧ wantT P R G N T M = 0 ∧ E = (3 - N) * P ∧ SP = N * R ∧ PD = N)) := by
  have htol : min (max T 0) 1000000 = T := by omega
  have hNR : 0 ≤ N * R := Int.mul_nonneg (by omega) hR.1
  have hNP : 0 ≤ N * P := Int.mul_nonneg (by omega) hP.1
  have hs : N * (P - R) = N * P - N * R := Int.mul_sub _ _ _
  have hs3 : (3 - N) * P = 3 * P - N * P := Int.sub_mul _ _ _
  have e1 : lookO ⟨⟨M, 0, 3 * P⟩, min (max T 0) 1000000, some (xG P G 0, P)⟩ (yB N R).id = some (xG P G 0, P) := if_pos rfl
  have hn : nearP (min (max T 0) 1000000) (yB N R).price (xG P G 0).price ↔ ¬1000 * max (R - P) (P - R) > T * P := by
    unfold nearP; rw [htol]; show 1000 * max (R - P) (P - R) ≤ T * P ↔ _; omega
  have ec : checkP (min (max T 0) 1000000) (yB N R) (some (xG P G 0, P)) = if N > G then 50 else if 1000 * max (R - P) (P - R) > T * P then 61 else 0 := by
    unfold checkP
    dsimp only
    rw [if_neg (show ¬(xG P G 0).st = -1 by show ¬G = -1; omega), if_neg (show ¬¬((xG P G 0).src = (yB N R).src ∧ (xG P G 0).num = (yB N R).num) from fun q => q ⟨rfl, rfl⟩)]
    show (if N > G - 0 then _ else _) = _
    rw [Int.sub_zero]
    by_cases h1 : N > G
    · rw [if_pos h1, if_pos h1]
    · rw [if_neg h1, if_neg h1]
      by_cases h2 : 1000 * max (R - P) (P - R) > T * P
      · rw [if_pos (fun q => (hn.1 q) h2), if_pos h2]
      · rw [if_neg (fun q => q (hn.2 h2)), if_neg h2]
  unfold invoiceP wantT
  rw [e1, ec]
  by_cases h1 : N > G
  · simp only [if_pos h1]
    rw [if_pos (show (50 : Int) ≠ 0 by decide)]
    exact ⟨50, 0, 3 * P, 0, rfl, by omega, by omega, .inl ⟨by decide, rfl, rfl, rfl, rfl⟩⟩
  simp only [if_neg h1]
  by_cases h2 : 1000 * max (R - P) (P - R) > T * P
  · simp only [if_pos h2]
    rw [if_pos (show (61 : Int) ≠ 0 by decide)]
    exact ⟨61, 0, 3 * P, 0, rfl, by omega, by omega, .inl ⟨by decide, rfl, rfl, rfl, rfl⟩⟩
  simp only [if_neg h2]
  rw [if_neg (show ¬(0 : Int) ≠ 0 by decide)]
  (try dsimp only)
  have ef : (⟨M, 0, 3 * P⟩ : FSt).free + (yB N R).copies * ((xG P G 0).price - (yB N R).price) = M - 3 * P + (N * P - N * R) := by
    rw [← hs]; show M - 0 - 3 * P + N * (P - R) = _; omega
  rw [ef]
  by_cases h3 : N * R > N * P + M - 3 * P
  · rw [if_pos (by omega), if_pos h3]
    exact ⟨60, 0, 3 * P, 0, rfl, by omega, by omega, .inl ⟨by decide, rfl, rfl, rfl, rfl⟩⟩
  rw [if_neg (by omega), if_neg h3]
  have hN3 : N * P ≤ 3 * P := Int.mul_le_mul_of_nonneg_right (by omega) hP.1
  have ep : paidF ⟨M, 0, 3 * P⟩ (xG P G 0) (yB N R) = ⟨M, N * R, 3 * P - N * P⟩ := by
    have er : (relP ⟨M, 0, 3 * P⟩ ((yB N R).copies * (xG P G 0).price)).2 = ⟨M, 0, 3 * P - N * P⟩ := by
      show (relP ⟨M, 0, 3 * P⟩ (N * P)).2 = _
      unfold relP; rw [if_neg (by omega), if_neg (by show ¬N * P > 3 * P; omega)]
    unfold paidF
    rw [er]
    show (spdP _ (N * R)).2 = _
    unfold spdP FSt.free
    dsimp only
    rw [if_neg (by omega), if_neg (by omega), Int.zero_add]
  rw [ep]
  refine ⟨0, N * R, 3 * P - N * P, N, ?_, by omega, by omega, .inr ⟨rfl, rfl, hs3.symm, rfl, rfl⟩⟩
  show (0, (⟨_, _, some ({ xG P G 0 with paid := 0 + N }, P)⟩ : OSt)) = _
  rw [Int.zero_add]; rfl
/-- A second invoice of one copy. -/
theorem inv_again {P G N SP E M T : Int} (hG : 0 ≤ G ∧ G < 4) : ∃ (c : Int) (F : FSt) (X : PK.Ord), invoiceP ⟨⟨M, SP, E⟩, T, some (xG P G N, P)⟩ (yB 1 29999) = (c, ⟨F, T, some (X, P)⟩) ∧ (c = 50 ↔ G - N < 1) := by
  have e1 : lookO ⟨⟨M, SP, E⟩, T, some (xG P G N, P)⟩ (yB 1 29999).id = some (xG P G N, P) := if_pos rfl
  have ec : checkP T (yB 1 29999) (some (xG P G N, P)) = if 1 > G - N then 50 else if ¬nearP T (yB 1 29999).price (xG P G N).price then 61 else 0 := by
    unfold checkP
    dsimp only
    rw [if_neg (show ¬(xG P G N).st = -1 by show ¬G = -1; omega), if_neg (show ¬¬((xG P G N).src = (yB 1 29999).src ∧ (xG P G N).num = (yB 1 29999).num) from fun q => q ⟨rfl, rfl⟩)]
    rfl
  unfold invoiceP
  rw [e1, ec]
  by_cases h1 : 1 > G - N
  · simp only [if_pos h1]
    rw [if_pos (show (50 : Int) ≠ 0 by decide)]
    exact ⟨50, _, _, rfl, ⟨fun _ => by omega, fun _ => rfl⟩⟩
  simp only [if_neg h1]
  by_cases h2 : nearP T (yB 1 29999).price (xG P G N).price
  · have e2 : (if ¬nearP T (yB 1 29999).price (xG P G N).price then (61 : Int) else 0) = 0 := if_neg (fun q => q h2)
    rw [e2, if_neg (show ¬(0 : Int) ≠ 0 by decide)]
    (try dsimp only)
    split
    · exact ⟨60, _, _, rfl, ⟨fun h => absurd h (by decide), fun h => absurd h (by omega)⟩⟩
    · exact ⟨0, _, _, rfl, ⟨fun h => absurd h (by decide), fun h => absurd h (by omega)⟩⟩
  · have e2 : (if ¬nearP T (yB 1 29999).price (xG P G N).price then (61 : Int) else 0) = 61 := if_pos h2
    rw [e2, if_pos (show (61 : Int) ≠ 0 by decide)]
    exact ⟨61, _, _, rfl, ⟨fun h => absurd h (by decide), fun h => absurd h (by omega)⟩⟩
theorem ordR_G {P G PD : Int} (hP : 0 ≤ P ∧ P < 20000) (hG : 0 ≤ G ∧ G < 4) (hD : 0 ≤ PD ∧ PD ≤ 4) : ordR (xG P G PD) := by
  unfold ordR xG placedO yO; dsimp only; omega
set_option maxHeartbeats 4000000 in
set_option maxRecDepth 100000 in
theorem lawThree (price other q0 q1 q2 q3 : Int) (w : World) (hi : in64 price ∧ in64 other ∧ in64 q0 ∧ in64 q1 ∧ in64 q2 ∧ in64 q3) (hL : LD w) :
    Calls Tryz.prog 4 #[.int .i64 price, .int .i64 other, .agg #[.int .i64 q0, .int .i64 q1, .int .i64 q2, .int .i64 q3]] w fun e w' => e = .returned (.bool (true)) ∧ Later w w' := by
  refine enter (vs := [.int .i64 price, .int .i64 other, .agg #[.int .i64 q0, .int .i64 q1, .int .i64 q2, .int .i64 q3]]) Tryz.func4 rfl Tryz.ntmps4 rfl ?_
  refine w_seq ?_
  refine rg_text ?_
  refine x_box rfl rfl rfl rfl ?_
  intro p5
  refine x_val rfl rfl rfl (v_assign rfl) ?_
  refine x_end ?_
  refine t_norm ?_
  refine w_seq ?_
  refine rg_text ?_
  refine x_callb rfl rfl rfl Tryz.func6 (by kernel_rfl) rfl (fun w1 hw1 => c_sane w1 (hL.later (hw1.base (by simp)))) ?_
  intro b22 hb22
  obtain rfl : b22 = true := hb22
  refine x_val rfl rfl rfl (v_assign rfl) ?_
  refine x_end ?_
  refine t_norm ?_
  refine w_seq ?_
  refine rg_text ?_
  refine x_val rfl rfl rfl (v_move rfl) ?_
  obtain ⟨P, hP⟩ : ∃ x, price % 20000 = x := ⟨_, rfl⟩
  have hbP := mod_b price (m := 20000) (by decide)
  rw [hP] at hbP
  refine x_callv (v := Value.int .i64 P) rfl rfl rfl Tryz.func7 (by kernel_rfl) rfl (fun w1 hw1 => by have h := c_Md price 20000 w1 hi.1 (by decide); rw [hP] at h; exact h) ?_
  refine x_val rfl rfl rfl (v_assign rfl) ?_
  refine x_end ?_
  refine t_norm ?_
  refine w_seq ?_
  refine rg_text ?_
  refine x_val rfl rfl rfl (v_move rfl) ?_
  obtain ⟨R, hR⟩ : ∃ x, other % 30000 = x := ⟨_, rfl⟩
  have hbR := mod_b other (m := 30000) (by decide)
  rw [hR] at hbR
  refine x_callv (v := Value.int .i64 R) rfl rfl rfl Tryz.func7 (by kernel_rfl) rfl (fun w1 hw1 => by have h := c_Md other 30000 w1 hi.2.1 (by decide); rw [hR] at h; exact h) ?_
  refine x_val rfl rfl rfl (v_assign rfl) ?_
  refine x_end ?_
  refine t_norm ?_
  refine w_seq ?_
  refine rg_text ?_
  refine x_val rfl rfl rfl (v_indexArr (j := 0) (off' := 0) Tryz.underlying40 sz3 rfl rfl (by first | omega | (dsimp only; omega)) rfl) ?_
  refine x_val rfl rfl rfl (v_load Tryz.underlying3 rfl rfl (at_ownL (vs := [Value.int .i64 q0, .int .i64 q1, .int .i64 q2, .int .i64 q3]) (.head _) rfl)) ?_
  obtain ⟨G, hG⟩ : ∃ x, q0 % 4 = x := ⟨_, rfl⟩
  have hbG := mod_b q0 (m := 4) (by decide)
  rw [hG] at hbG
  refine x_callv (v := Value.int .i64 G) rfl rfl rfl Tryz.func7 (by kernel_rfl) rfl (fun w1 hw1 => by have h := c_Md q0 4 w1 hi.2.2.1 (by decide); rw [hG] at h; exact h) ?_
  refine x_val rfl rfl rfl (v_assign rfl) ?_
  refine x_end ?_
  refine t_norm ?_
  refine w_seq ?_
  refine rg_text ?_
  refine x_val rfl rfl rfl (v_indexArr (j := 1) (off' := 1) Tryz.underlying40 sz3 rfl rfl (by first | omega | (dsimp only; omega)) rfl) ?_
  refine x_val rfl rfl rfl (v_load Tryz.underlying3 rfl rfl (at_ownL (vs := [Value.int .i64 q0, .int .i64 q1, .int .i64 q2, .int .i64 q3]) (.head _) rfl)) ?_
  obtain ⟨N0, hN0⟩ : ∃ x, q1 % 4 = x := ⟨_, rfl⟩
  have hbN0 := mod_b q1 (m := 4) (by decide)
  rw [hN0] at hbN0
  refine x_callv (v := Value.int .i64 N0) rfl rfl rfl Tryz.func7 (by kernel_rfl) rfl (fun w1 hw1 => by have h := c_Md q1 4 w1 hi.2.2.2.1 (by decide); rw [hN0] at h; exact h) ?_
  obtain ⟨N, hN⟩ : ∃ x, 1 + N0 = x := ⟨_, rfl⟩
  refine x_val rfl rfl rfl (v_addi (c := N) rfl rfl (by omega) (by omega)) ?_
  refine x_val rfl rfl rfl (v_assign rfl) ?_
  refine x_end ?_
  refine t_norm ?_
  refine w_seq ?_
  refine rg_text ?_
  refine x_val rfl rfl rfl (v_indexArr (j := 2) (off' := 2) Tryz.underlying40 sz3 rfl rfl (by first | omega | (dsimp only; omega)) rfl) ?_
  refine x_val rfl rfl rfl (v_load Tryz.underlying3 rfl rfl (at_ownL (vs := [Value.int .i64 q0, .int .i64 q1, .int .i64 q2, .int .i64 q3]) (.head _) rfl)) ?_
  obtain ⟨T, hT⟩ : ∃ x, q2 % 900 = x := ⟨_, rfl⟩
  have hbT := mod_b q2 (m := 900) (by decide)
  rw [hT] at hbT
  refine x_callv (v := Value.int .i64 T) rfl rfl rfl Tryz.func7 (by kernel_rfl) rfl (fun w1 hw1 => by have h := c_Md q2 900 w1 hi.2.2.2.2.1 (by decide); rw [hT] at h; exact h) ?_
  refine x_val rfl rfl rfl (v_assign rfl) ?_
  refine x_end ?_
  refine t_norm ?_
  refine w_seq ?_
  refine rg_text ?_
  refine x_val rfl rfl rfl (v_move rfl) ?_
  refine x_val rfl rfl rfl (v_muli rfl rfl rfl (by first | omega | (dsimp only; omega))) ?_
  refine x_val rfl rfl rfl (v_indexArr (j := 3) (off' := 3) Tryz.underlying40 sz3 rfl rfl (by first | omega | (dsimp only; omega)) rfl) ?_
  refine x_val rfl rfl rfl (v_load Tryz.underlying3 rfl rfl (at_ownL (vs := [Value.int .i64 q0, .int .i64 q1, .int .i64 q2, .int .i64 q3]) (.head _) rfl)) ?_
  obtain ⟨Z, hZ⟩ : ∃ x, q3 % 30000 = x := ⟨_, rfl⟩
  have hbZ := mod_b q3 (m := 30000) (by decide)
  rw [hZ] at hbZ
  refine x_callv (v := Value.int .i64 Z) rfl rfl rfl Tryz.func7 (by kernel_rfl) rfl (fun w1 hw1 => by have h := c_Md q3 30000 w1 hi.2.2.2.2.2 (by decide); rw [hZ] at h; exact h) ?_
  have hP : 0 ≤ P ∧ P < 20000 := hbP
  obtain ⟨M, hM⟩ : ∃ x, 3 * P + Z = x := ⟨_, rfl⟩
  refine x_val rfl rfl rfl (v_addi (c := M) rfl rfl (by omega) (by omega)) ?_
  refine x_val rfl rfl rfl (v_assign rfl) ?_
  refine x_end ?_
  refine t_norm ?_
  refine w_seq ?_
  refine rg_text ?_
  refine x_val rfl rfl rfl (v_move rfl) ?_
  refine x_val rfl rfl rfl (v_move rfl) ?_
  refine x_val rfl rfl rfl (v_move rfl) ?_
  have hm1 : 0 ≤ T * P ∧ T * P ≤ 900 * 20000 := ⟨Int.mul_nonneg (by omega) hP.1, Int.mul_le_mul (by omega) (by omega) hP.1 (by decide)⟩
  have hm2 : 0 ≤ N * R ∧ N * R ≤ 4 * 30000 := ⟨Int.mul_nonneg (by omega) hbR.1, Int.mul_le_mul (by omega) (by omega) hbR.1 (by decide)⟩
  have hm3 : 0 ≤ N * P ∧ N * P ≤ 4 * 20000 := ⟨Int.mul_nonneg (by omega) hP.1, Int.mul_le_mul (by omega) (by omega) hP.1 (by decide)⟩
  have hm4 : (3 - N) * P = 3 * P - N * P := Int.sub_mul _ _ _
  refine x_own (τ := Nat × Nat × Nat × Nat × Nat × Array MapEntry × Nat × Array MapEntry × Nat) (fun x => .tuple #[.pointer (some ⟨x.2.2.2.1, 0, none⟩), .pointer (some ⟨x.2.2.1, 0, none⟩), .int .i64 0]) (fun x => MapF Tryz.prog 3 x.2.2.2.2.2.1 (fF x.1) ∧ MapF Tryz.prog 3 x.2.2.2.2.2.2.2.1 (fO (some ((placedO (yO 3 P)), P)))) (fun x => (x.2.2.2.1, Obj.cells (orC x.2.2.1 (min (max T 0) 1000000) x.2.2.2.2.1).toArray 58) :: (x.2.2.2.2.1, Obj.map x.2.2.2.2.2.2.2.1 x.2.2.2.2.2.2.2.2) :: (x.1, Obj.cells (fxC ⟨M, 0, 3 * P⟩).toArray 88) :: (x.2.1, Obj.map x.2.2.2.2.2.1 x.2.2.2.2.2.2.1) :: (x.2.2.1, Obj.cells (fnC x.2.1 M).toArray 83) :: [(p5, Obj.cells [Value.int .i64 q0, .int .i64 q1, .int .i64 q2, .int .i64 q3].toArray 40)]) rfl rfl rfl Tryz.func8 (by kernel_rfl) rfl (fun w1 hw1 => (c_One M T P w1 (hL.later (hw1.base (by simp))) ⟨hP.1, by omega⟩ ⟨by omega, by omega⟩).mono fun e w2 ⟨x, h1, h2, h3⟩ => ⟨x, h1, h3.base (by simp), h2, hw1.join2 h3⟩) ?_
  rintro ⟨pX, mF, pF, pO, mO, esF, ckF, esO, ckO⟩ ⟨hF, hO⟩
  dsimp only at hF hO
  refine x_val rfl rfl rfl (v_move rfl) ?_
  refine x_val rfl rfl rfl (v_extract rfl rfl) ?_
  refine x_val rfl rfl rfl (v_extract rfl rfl) ?_
  refine x_val rfl rfl rfl (v_extract rfl rfl) ?_
  refine x_val rfl rfl rfl (v_assign rfl) ?_
  refine x_val rfl rfl rfl (v_assign rfl) ?_
  refine x_val rfl rfl rfl (v_assign rfl) ?_
  refine x_end ?_
  refine t_norm ?_
  refine w_seq ?_
  refine w_seq ?_
  refine rg_text ?_
  refine x_val rfl rfl rfl (v_move rfl) ?_
  refine x_bool rfl rfl rfl (v_pnil (o := some ⟨pO, 0, none⟩) Tryz.underlying25 rfl rfl) ?_
  intro b52 hb52
  obtain rfl : b52 = false := hb52
  refine x_val rfl rfl rfl (v_move rfl) ?_
  refine x_valg rfl rfl rfl rfl rfl (v_move rfl) ?_
  refine x_boolg rfl rfl rfl rfl rfl (v_pnil (o := some ⟨pF, 0, none⟩) Tryz.underlying26 rfl rfl) ?_
  intro b55 hb55
  obtain rfl : b55 = false := hb55
  refine x_bool rfl rfl rfl (v_or rfl rfl) ?_
  intro b56 hb56
  obtain rfl : b56 = false := hb56
  refine x_val rfl rfl rfl (v_move rfl) ?_
  refine x_valg rfl rfl rfl rfl rfl (v_move rfl) ?_
  refine x_boolg rfl rfl rfl rfl rfl (v_neq rfl rfl) ?_
  intro b59 hb59
  obtain rfl : b59 = false := hb59
  refine x_bool rfl rfl rfl (v_or rfl rfl) ?_
  intro b60 hb60
  obtain rfl : b60 = false := hb60
  refine x_val rfl rfl rfl (v_move rfl) ?_
  refine x_valg rfl rfl rfl rfl rfl (v_move rfl) ?_
  refine x_boolg rfl rfl rfl rfl rfl (v_gtr rfl rfl) ?_
  intro b63 hb63
  refine x_valg rfl rfl rfl rfl rfl (v_move rfl) ?_
  refine x_valg rfl rfl rfl rfl rfl (v_move rfl) ?_
  refine x_turng (τ := Array MapEntry × Nat) (v := Value.int .i64 (if G > 0 then 0 else 1)) (fun q => MapF Tryz.prog 3 q.1 (fO (some ((xG P G 0), P)))) (fun q => (pO, Obj.cells (orC pF (min (max T 0) 1000000) mO).toArray 58) :: (mO, Obj.map q.1 q.2) :: (pX, Obj.cells (fxC ⟨M, 0, 3 * P⟩).toArray 88) :: (mF, Obj.map esF ckF) :: (pF, Obj.cells (fnC mF M).toArray 83) :: [(p5, Obj.cells [Value.int .i64 q0, .int .i64 q1, .int .i64 q2, .int .i64 q3].toArray 40)]) rfl rfl rfl rfl Tryz.func13 (by kernel_rfl) rfl (fun w1 hw1 => by
    have h := c_Receive (L := [(p5, Obj.cells [Value.int .i64 q0, .int .i64 q1, .int .i64 q2, .int .i64 q3].toArray 40)]) hw1 hF hO (by unfold fundOK; dsimp only; omega) (by omega) (ordR_y hP) ⟨hP.1, by omega⟩ (G) ⟨by omega, by omega⟩
    rw [rec_three hbG] at h
    exact h) ?_
  rintro ⟨es66, ck66⟩ hO66
  dsimp only at hO66
  refine x_boolg rfl rfl rfl rfl rfl (v_eql rfl rfl) ?_
  intro b67 hb67
  refine x_boolg rfl rfl rfl rfl rfl (v_bneq rfl rfl Tryz.underlying4) ?_
  intro b68 hb68
  obtain rfl : b68 = false := hb68.trans (by rw [hb63, hb67]; by_cases h : G > 0 <;> simp [h])
  refine x_bool rfl rfl rfl (v_or rfl rfl) ?_
  intro b69 hb69
  obtain rfl : b69 = false := hb69
  refine x_end ?_
  refine t_norm ?_
  refine w_cond rfl (fun hc69 => ?_) (fun hc69 => ?_)
  · cases hc69
  · skip
    refine w_skip ?_
    refine t_norm ?_
    refine w_seq ?_
    refine rg_text ?_
    refine x_val rfl rfl rfl (v_assign rfl) ?_
    refine x_end ?_
    refine t_norm ?_
    refine w_seq_cut (σ := Int) (fun z => z = wantT P R G N T M) (fun z => [(5, Value.pointer (some ⟨p5, 0, none⟩)), (7, Value.bool true), (8, Value.int .i64 P), (9, Value.int .i64 R), (10, Value.int .i64 G), (11, Value.int .i64 N), (12, Value.int .i64 T), (13, Value.int .i64 M), (14, Value.pointer (some ⟨pO, 0, none⟩)), (15, Value.pointer (some ⟨pF, 0, none⟩)), (17, Value.int .i64 z)]) (fun z => (pO, Obj.cells (orC pF (min (max T 0) 1000000) mO).toArray 58) :: (mO, Obj.map es66 ck66) :: (pX, Obj.cells (fxC ⟨M, 0, 3 * P⟩).toArray 88) :: (mF, Obj.map esF ckF) :: (pF, Obj.cells (fnC mF M).toArray 83) :: [(p5, Obj.cells [Value.int .i64 q0, .int .i64 q1, .int .i64 q2, .int .i64 q3].toArray 40)]) (fun z => [(w, fun _ => True)]) ?_ ?_
    · refine w_block ?_
      refine w_seq ?_
      refine rg_text ?_
      refine x_val rfl rfl rfl (v_move rfl) ?_
      refine x_val rfl rfl rfl (v_move rfl) ?_
      refine x_bool rfl rfl rfl (v_gtr rfl rfl) ?_
      intro b73 hb73
      refine x_val rfl rfl rfl (v_assign rfl) ?_
      refine x_end ?_
      refine t_norm ?_
      refine w_cond rfl (fun hc70 => ?_) (fun hc70 => ?_)
      · simp only [hb73, decide_eq_true_eq, decide_eq_false_iff_not, Bool.and_eq_true, Bool.or_eq_true, Bool.and_eq_false_iff, Bool.or_eq_false_iff, Bool.not_eq_true', Bool.not_eq_false', ne_eq, Decidable.not_not] at hc70
        refine rg_text ?_
        refine x_val rfl rfl rfl (v_assign rfl) ?_
        refine x_end ?_
        refine b_norm ?_
        exact c_norm _ (show _ = wantT P R G N T M from by unfold wantT; rw [if_pos (by omega)]) (by repeat (first | exact Sub.nil | refine Sub.cons rfl ?_)) (fun _ h => h)
      · simp only [hb73, decide_eq_true_eq, decide_eq_false_iff_not, Bool.and_eq_true, Bool.or_eq_true, Bool.and_eq_false_iff, Bool.or_eq_false_iff, Bool.not_eq_true', Bool.not_eq_false', ne_eq, Decidable.not_not] at hc70
        refine w_seq ?_
        refine rg_text ?_
        refine x_val rfl rfl rfl (v_move rfl) ?_
        refine x_val rfl rfl rfl (v_move rfl) ?_
        refine x_val rfl rfl rfl (v_subi rfl rfl rfl (by first | omega | (dsimp only; omega))) ?_
        refine x_val rfl rfl rfl (v_move rfl) ?_
        refine x_val rfl rfl rfl (v_move rfl) ?_
        refine x_val rfl rfl rfl (v_subi rfl rfl rfl (by first | omega | (dsimp only; omega))) ?_
        refine x_val (v := Value.int .i64 (max (R - P) (P - R))) rfl rfl rfl (v_max rfl rfl) ?_
        refine x_val rfl rfl rfl (v_muli rfl rfl rfl (by first | omega | (dsimp only; omega))) ?_
        refine x_val rfl rfl rfl (v_move rfl) ?_
        refine x_val rfl rfl rfl (v_move rfl) ?_
        refine x_val rfl rfl rfl (v_muli rfl rfl rfl (by first | omega | (dsimp only; omega))) ?_
        refine x_bool rfl rfl rfl (v_gtr rfl rfl) ?_
        intro b86 hb86
        refine x_val rfl rfl rfl (v_assign rfl) ?_
        refine x_end ?_
        refine t_norm ?_
        refine w_cond rfl (fun hc74 => ?_) (fun hc74 => ?_)
        · simp only [hb86, decide_eq_true_eq, decide_eq_false_iff_not, Bool.and_eq_true, Bool.or_eq_true, Bool.and_eq_false_iff, Bool.or_eq_false_iff, Bool.not_eq_true', Bool.not_eq_false', ne_eq, Decidable.not_not] at hc74
          refine rg_text ?_
          refine x_val rfl rfl rfl (v_assign rfl) ?_
          refine x_end ?_
          refine b_norm ?_
          exact c_norm _ (show _ = wantT P R G N T M from by unfold wantT; rw [if_neg (by omega), if_pos (by omega)]) (by repeat (first | exact Sub.nil | refine Sub.cons rfl ?_)) (fun _ h => h)
        · simp only [hb86, decide_eq_true_eq, decide_eq_false_iff_not, Bool.and_eq_true, Bool.or_eq_true, Bool.and_eq_false_iff, Bool.or_eq_false_iff, Bool.not_eq_true', Bool.not_eq_false', ne_eq, Decidable.not_not] at hc74
          refine w_seq ?_
          refine rg_text ?_
          refine x_val rfl rfl rfl (v_move rfl) ?_
          refine x_val rfl rfl rfl (v_move rfl) ?_
          refine x_val rfl rfl rfl (v_muli rfl rfl rfl (by first | omega | (dsimp only; omega))) ?_
          refine x_val rfl rfl rfl (v_move rfl) ?_
          refine x_val rfl rfl rfl (v_move rfl) ?_
          refine x_val rfl rfl rfl (v_muli rfl rfl rfl (by first | omega | (dsimp only; omega))) ?_
          refine x_val rfl rfl rfl (v_move rfl) ?_
          refine x_val rfl rfl rfl (v_addi rfl rfl rfl (by first | omega | (dsimp only; omega))) ?_
          refine x_val rfl rfl rfl (v_move rfl) ?_
          refine x_val rfl rfl rfl (v_muli rfl rfl rfl (by first | omega | (dsimp only; omega))) ?_
          refine x_val rfl rfl rfl (v_subi rfl rfl rfl (by first | omega | (dsimp only; omega))) ?_
          refine x_bool rfl rfl rfl (v_gtr rfl rfl) ?_
          intro b99 hb99
          refine x_val rfl rfl rfl (v_assign rfl) ?_
          refine x_end ?_
          refine t_norm ?_
          refine w_cond rfl (fun hc87 => ?_) (fun hc87 => ?_)
          · simp only [hb99, decide_eq_true_eq, decide_eq_false_iff_not, Bool.and_eq_true, Bool.or_eq_true, Bool.and_eq_false_iff, Bool.or_eq_false_iff, Bool.not_eq_true', Bool.not_eq_false', ne_eq, Decidable.not_not] at hc87
            refine rg_text ?_
            refine x_val rfl rfl rfl (v_assign rfl) ?_
            refine x_end ?_
            refine b_norm ?_
            exact c_norm _ (show _ = wantT P R G N T M from by unfold wantT; rw [if_neg (by omega), if_neg (by omega), if_pos (by omega)]) (by repeat (first | exact Sub.nil | refine Sub.cons rfl ?_)) (fun _ h => h)
          · simp only [hb99, decide_eq_true_eq, decide_eq_false_iff_not, Bool.and_eq_true, Bool.or_eq_true, Bool.and_eq_false_iff, Bool.or_eq_false_iff, Bool.not_eq_true', Bool.not_eq_false', ne_eq, Decidable.not_not] at hc87
            refine w_skip ?_
            refine b_norm ?_
            exact c_norm _ (show _ = wantT P R G N T M from by unfold wantT; rw [if_neg (by omega), if_neg (by omega), if_neg (by omega)]) (by repeat (first | exact Sub.nil | refine Sub.cons rfl ?_)) (fun _ h => h)
    · rintro z hz
      refine w_state ([(5, Value.pointer (some ⟨p5, 0, none⟩)), (7, Value.bool true), (8, Value.int .i64 P), (9, Value.int .i64 R), (10, Value.int .i64 G), (11, Value.int .i64 N), (12, Value.int .i64 T), (13, Value.int .i64 M), (14, Value.pointer (some ⟨pO, 0, none⟩)), (15, Value.pointer (some ⟨pF, 0, none⟩)), (17, Value.int .i64 z)]) ((pO, Obj.cells (orC pF (min (max T 0) 1000000) mO).toArray 58) :: (mO, Obj.map es66 ck66) :: (pX, Obj.cells (fxC ⟨M, 0, 3 * P⟩).toArray 88) :: (mF, Obj.map esF ckF) :: (pF, Obj.cells (fnC mF M).toArray 83) :: [(p5, Obj.cells [Value.int .i64 q0, .int .i64 q1, .int .i64 q2, .int .i64 q3].toArray 40)]) ([(w, fun _ => True)]) ?_
      refine w_seq ?_
      refine rg_text ?_
      refine x_val rfl rfl rfl (v_move rfl) ?_
      refine x_val rfl rfl rfl (v_move rfl) ?_
      refine x_val rfl rfl rfl (v_move rfl) ?_
      refine x_callv rfl rfl rfl Tryz.func15 (by kernel_rfl) rfl (fun w1 hw1 => c_bil N R w1 (by omega) (by omega)) ?_
      obtain ⟨c, SP, E, PD, hinv, hfn, hPD, hcase⟩ := inv_three hP hbR (show 0 ≤ T ∧ T < 900 by omega) (show 1 ≤ N ∧ N ≤ 4 by omega) hbG (show 3 * P ≤ M ∧ M ≤ 90000 by omega)
      have hzN : z = 0 → N ≤ G := fun h => by rw [hz] at h; unfold wantT at h; split at h; (· cases h); omega
      rw [← hz] at hcase
      clear hz
      obtain ⟨_, bf1, bf2, bf3, bf4⟩ := bil_facts (n := N) (r := R) (by omega) (by omega)
      refine x_turnf (τ := Nat × Array MapEntry × Nat) (v := Value.int .i64 c) (fun q => MapF Tryz.prog 3 q.2.1 (fO (some ((xG P G PD), P)))) (fun q => (pO, Obj.cells (orC pF (min (max T 0) 1000000) q.1).toArray 58) :: (q.1, Obj.map q.2.1 q.2.2) :: (pX, Obj.cells (fxC ⟨M, SP, E⟩).toArray 88) :: (mF, Obj.map esF ckF) :: (pF, Obj.cells (fnC mF M).toArray 83) :: [(p5, Obj.cells [Value.int .i64 q0, .int .i64 q1, .int .i64 q2, .int .i64 q3].toArray 40)]) rfl rfl Tryz.func14 (by kernel_rfl) rfl (fun w1 hw1 => by
        have h := c_Pay (L := [(p5, Obj.cells [Value.int .i64 q0, .int .i64 q1, .int .i64 q2, .int .i64 q3].toArray 40)]) hw1 hF hO66 (by unfold fundOK; dsimp only; omega) (by omega) (ordR_G hP hbG (by omega)) ⟨hP.1, by omega⟩ (by simp) hL (bilT N R) bf1 bf2 bf3 (yB N R) bf4 rfl ⟨by show (0 : Int) ≤ R; omega, by show R ≤ (999999999 : Int); omega⟩ ⟨by show (1 : Int) ≤ N; omega, by show N ≤ (9999 : Int); omega⟩
        rw [hinv] at h
        exact h) ?_
      rintro ⟨mO104, es104, ck104⟩ hO104
      dsimp only at hO104
      refine x_val rfl rfl rfl (v_assign rfl) ?_
      refine x_end ?_
      refine t_norm ?_
      refine w_seq ?_
      refine rg_text ?_
      refine x_val rfl rfl rfl (v_move rfl) ?_
      refine x_callv (v := Value.tuple #[.agg ((xG P G PD)).cells.toArray, .bool true]) rfl rfl rfl Tryz.func11 (by kernel_rfl) rfl (fun w1 hw1 => c_Ord w1 (at_ownL (vs := orC pF (min (max T 0) 1000000) mO104) (.head _) rfl w1 hw1) (hw1.own_at (mO104, _) (.tail _ (.head _))) hO104) ?_
      refine x_val rfl rfl rfl (v_move rfl) ?_
      refine x_val rfl rfl rfl (v_extract rfl rfl) ?_
      refine x_bool rfl rfl rfl (v_extract rfl rfl) ?_
      intro b109 hb109
      refine x_alloc rfl rfl rfl zr35 ?_
      intro p19
      refine x_store0 [] rfl rfl rfl rfl sz35 rfl rfl ?_
      refine x_val rfl rfl rfl (v_assign rfl) ?_
      refine x_end ?_
      refine t_norm ?_
      refine w_seq ?_
      refine w_seq ?_
      refine rg_text ?_
      refine x_val rfl rfl rfl (v_move rfl) ?_
      refine x_bool rfl rfl rfl (v_neq rfl rfl) ?_
      intro b111 hb111
      refine x_end ?_
      refine t_norm ?_
      refine w_cond rfl (fun hc111 => ?_) (fun hc111 => ?_)
      · simp only [hb111, decide_eq_true_eq, decide_eq_false_iff_not, Bool.and_eq_true, Bool.or_eq_true, Bool.and_eq_false_iff, Bool.or_eq_false_iff, Bool.not_eq_true', Bool.not_eq_false', ne_eq, Decidable.not_not] at hc111
        obtain ⟨k1, k2, k3, k4⟩ : c = z ∧ E = 3 * P ∧ SP = 0 ∧ PD = 0 := by rcases hcase with ⟨_, h⟩ | h; (· exact h); exact absurd h.1 hc111
        refine w_seq ?_
        refine rg_text ?_
        refine x_val rfl rfl rfl (v_move rfl) ?_
        refine x_val rfl rfl rfl (v_move rfl) ?_
        refine x_valg rfl rfl rfl rfl rfl (v_move rfl) ?_
        refine x_valg rfl rfl rfl rfl rfl (v_move rfl) ?_
        refine x_boolg rfl rfl rfl rfl rfl (v_eql rfl rfl) ?_
        intro b116 hb116
        obtain rfl : b116 = true := hb116.trans (decide_eq_true k1)
        refine x_bool rfl rfl rfl (v_and rfl rfl) ?_
        intro b117 hb117
        obtain rfl : b117 = true := hb117
        refine x_val rfl rfl rfl (v_move rfl) ?_
        refine x_valg rfl rfl rfl rfl rfl (v_fieldAddr (off' := 7) Tryz.underlying35 rfl sz3 (by decide) rfl rfl) ?_
        refine x_valg rfl rfl rfl rfl rfl (v_load Tryz.underlying3 rfl rfl (at_ownL (vs := (xG P G PD).cells) (.head _) rfl)) ?_
        refine x_boolg rfl rfl rfl rfl rfl (v_eql rfl rfl) ?_
        intro b121 hb121
        obtain rfl : b121 = true := hb121.trans (decide_eq_true k4)
        refine x_bool rfl rfl rfl (v_and rfl rfl) ?_
        intro b122 hb122
        obtain rfl : b122 = true := hb122
        refine x_val rfl rfl rfl (v_move rfl) ?_
        refine x_valg rfl rfl rfl rfl rfl (v_move rfl) ?_
        refine x_valg rfl rfl rfl rfl rfl (v_move rfl) ?_
        refine x_valg rfl rfl rfl rfl rfl (v_muli rfl rfl rfl (by first | omega | (dsimp only; omega))) ?_
        refine x_callbg rfl rfl rfl rfl rfl Tryz.func12 (by kernel_rfl) rfl (fun w1 hw1 => c_has (f := ⟨M, SP, E⟩) w1 (at_ownL (vs := fnC mF M) (.tail _ (.tail _ (.tail _ (.tail _ (.tail _ (.head _)))))) rfl w1 hw1) (hw1.own_at (mF, _) (.tail _ (.tail _ (.tail _ (.tail _ (.head _)))))) hF (fun i v hv => at_ownL (vs := fxC ⟨M, SP, E⟩) (.tail _ (.tail _ (.tail _ (.head _)))) hv w1 hw1) (3 * P) (0)) ?_
        intro b127 hb127
        obtain rfl : b127 = true := hb127.trans (by dsimp only; rw [k2, k3]; simp)
        refine x_bool rfl rfl rfl (v_and rfl rfl) ?_
        intro b128 hb128
        obtain rfl : b128 = true := hb128
        refine x_val rfl rfl rfl (v_assign rfl) ?_
        refine x_end ?_
        refine t_norm ?_
        refine w_ret ?_
        refine t_ret ?_
        exact ret1 rfl rfl (fun w' hm => ⟨rfl, hm.base (by simp)⟩)
      · simp only [hb111, decide_eq_true_eq, decide_eq_false_iff_not, Bool.and_eq_true, Bool.or_eq_true, Bool.and_eq_false_iff, Bool.or_eq_false_iff, Bool.not_eq_true', Bool.not_eq_false', ne_eq, Decidable.not_not] at hc111
        obtain ⟨k1, k2, k3, k4⟩ : z = 0 ∧ E = (3 - N) * P ∧ SP = N * R ∧ PD = N := by rcases hcase with h | ⟨_, h⟩; (· exact absurd hc111 h.1); exact h
        have hNG := hzN k1
        obtain ⟨c2, F2, X2, hag, hc2⟩ := inv_again (P := P) (N := PD) (SP := SP) (E := E) (M := M) (T := (min (max T 0) 1000000)) hbG
        refine w_skip ?_
        refine t_norm ?_
        refine w_seq ?_
        refine rg_text ?_
        refine x_val rfl rfl rfl (v_assign rfl) ?_
        refine x_end ?_
        refine t_norm ?_
        refine w_seq ?_
        refine w_seq ?_
        refine rg_text ?_
        refine x_val rfl rfl rfl (v_move rfl) ?_
        refine x_val rfl rfl rfl (v_move rfl) ?_
        refine x_val rfl rfl rfl (v_subi rfl rfl rfl (by first | omega | (dsimp only; omega))) ?_
        refine x_bool rfl rfl rfl (v_lss rfl rfl) ?_
        intro b132 hb132
        refine x_end ?_
        refine t_norm ?_
        refine w_cond rfl (fun hc132 => ?_) (fun hc132 => ?_)
        · simp only [hb132, decide_eq_true_eq, decide_eq_false_iff_not, Bool.and_eq_true, Bool.or_eq_true, Bool.and_eq_false_iff, Bool.or_eq_false_iff, Bool.not_eq_true', Bool.not_eq_false', ne_eq, Decidable.not_not] at hc132
          refine rg_text ?_
          refine x_val rfl rfl rfl (v_assign rfl) ?_
          refine x_end ?_
          refine t_norm ?_
          refine w_seq ?_
          refine rg_text ?_
          refine x_val rfl rfl rfl (v_move rfl) ?_
          refine x_val rfl rfl rfl (v_move rfl) ?_
          refine x_valg rfl rfl rfl rfl rfl (v_move rfl) ?_
          refine x_boolg rfl rfl rfl rfl rfl (v_eql rfl rfl) ?_
          intro b136 hb136
          obtain rfl : b136 = true := hb136.trans (decide_eq_true k1)
          refine x_bool rfl rfl rfl (v_and rfl rfl) ?_
          intro b137 hb137
          obtain rfl : b137 = true := hb137
          refine x_val rfl rfl rfl (v_move rfl) ?_
          refine x_valg rfl rfl rfl rfl rfl (v_fieldAddr (off' := 7) Tryz.underlying35 rfl sz3 (by decide) rfl rfl) ?_
          refine x_valg rfl rfl rfl rfl rfl (v_load Tryz.underlying3 rfl rfl (at_ownL (vs := (xG P G PD).cells) (.head _) rfl)) ?_
          refine x_valg rfl rfl rfl rfl rfl (v_move rfl) ?_
          refine x_boolg rfl rfl rfl rfl rfl (v_eql rfl rfl) ?_
          intro b142 hb142
          obtain rfl : b142 = true := hb142.trans (decide_eq_true k4)
          refine x_bool rfl rfl rfl (v_and rfl rfl) ?_
          intro b143 hb143
          obtain rfl : b143 = true := hb143
          refine x_val rfl rfl rfl (v_move rfl) ?_
          refine x_valg rfl rfl rfl rfl rfl (v_move rfl) ?_
          refine x_valg rfl rfl rfl rfl rfl (v_move rfl) ?_
          refine x_valg rfl rfl rfl rfl rfl (v_subi rfl rfl rfl (by first | omega | (dsimp only; omega))) ?_
          refine x_valg rfl rfl rfl rfl rfl (v_move rfl) ?_
          refine x_valg rfl rfl rfl rfl rfl (v_muli rfl rfl rfl (by first | omega | (dsimp only; omega))) ?_
          refine x_valg rfl rfl rfl rfl rfl (v_move rfl) ?_
          refine x_valg rfl rfl rfl rfl rfl (v_move rfl) ?_
          refine x_valg rfl rfl rfl rfl rfl (v_muli rfl rfl rfl (by first | omega | (dsimp only; omega))) ?_
          refine x_callbg rfl rfl rfl rfl rfl Tryz.func12 (by kernel_rfl) rfl (fun w1 hw1 => c_has (f := ⟨M, SP, E⟩) w1 (at_ownL (vs := fnC mF M) (.tail _ (.tail _ (.tail _ (.tail _ (.tail _ (.head _)))))) rfl w1 hw1) (hw1.own_at (mF, _) (.tail _ (.tail _ (.tail _ (.tail _ (.head _)))))) hF (fun i v hv => at_ownL (vs := fxC ⟨M, SP, E⟩) (.tail _ (.tail _ (.tail _ (.head _)))) hv w1 hw1) ((3 - N) * P) (N * R)) ?_
          intro b153 hb153
          obtain rfl : b153 = true := hb153.trans (by dsimp only; rw [k2, k3]; simp)
          refine x_bool rfl rfl rfl (v_and rfl rfl) ?_
          intro b154 hb154
          obtain rfl : b154 = true := hb154
          refine x_val rfl rfl rfl (v_move rfl) ?_
          refine x_valg rfl rfl rfl rfl rfl (v_move rfl) ?_
          refine x_callvg rfl rfl rfl rfl rfl Tryz.func15 (by kernel_rfl) rfl (fun w1 hw1 => c_bil 1 29999 w1 (by decide) (by decide)) ?_
          obtain ⟨_, bf1, bf2, bf3, bf4⟩ := bil_facts (n := 1) (r := 29999) (by decide) (by decide)
          refine x_turng (τ := Nat × Array MapEntry × Nat) (v := Value.int .i64 c2) (fun q => MapF Tryz.prog 3 q.2.1 (fO (some (X2, P)))) (fun q => (pO, Obj.cells (orC pF (min (max T 0) 1000000) q.1).toArray 58) :: (q.1, Obj.map q.2.1 q.2.2) :: (pX, Obj.cells (fxC F2).toArray 88) :: (mF, Obj.map esF ckF) :: (pF, Obj.cells (fnC mF M).toArray 83) :: [(p19, Obj.cells (xG P G PD).cells.toArray 35), (p5, Obj.cells [Value.int .i64 q0, .int .i64 q1, .int .i64 q2, .int .i64 q3].toArray 40)]) rfl rfl rfl rfl Tryz.func14 (by kernel_rfl) rfl (fun w1 hw1 => by
            have h := c_Pay (L := [(p19, Obj.cells (xG P G PD).cells.toArray 35), (p5, Obj.cells [Value.int .i64 q0, .int .i64 q1, .int .i64 q2, .int .i64 q3].toArray 40)]) (hw1.perm ((List.Perm.swap _ _ _).trans (.cons _ ((List.Perm.swap _ _ _).trans (.cons _ ((List.Perm.swap _ _ _).trans (.cons _ ((List.Perm.swap _ _ _).trans (.cons _ ((List.Perm.swap _ _ _).trans (.cons _ (.refl _)))))))))))) hF hO104 (by unfold fundOK; dsimp only; omega) (by omega) (ordR_G hP hbG hPD) ⟨hP.1, by omega⟩ (by simp) hL (bilT 1 29999) bf1 bf2 bf3 (yB 1 29999) bf4 rfl ⟨by show (0 : Int) ≤ 29999; omega, by show 29999 ≤ (999999999 : Int); omega⟩ ⟨by show (1 : Int) ≤ 1; omega, by show 1 ≤ (9999 : Int); omega⟩
            rw [hag] at h
            exact h) ?_
          rintro ⟨mO158, es158, ck158⟩ hO158
          dsimp only at hO158
          refine x_boolg rfl rfl rfl rfl rfl (v_eql rfl rfl) ?_
          intro b159 hb159
          refine x_valg rfl rfl rfl rfl rfl (v_move rfl) ?_
          refine x_boolg rfl rfl rfl rfl rfl (v_eql rfl rfl) ?_
          intro b161 hb161
          refine x_boolg rfl rfl rfl rfl rfl (v_beql rfl rfl Tryz.underlying4) ?_
          intro b162 hb162
          obtain rfl : b162 = true := hb162.trans (by rw [hb159, hb161]; simp only [hc2, decide_eq_true_eq]; simp; omega)
          refine x_bool rfl rfl rfl (v_and rfl rfl) ?_
          intro b163 hb163
          obtain rfl : b163 = true := hb163
          refine x_val rfl rfl rfl (v_assign rfl) ?_
          refine x_end ?_
          refine t_norm ?_
          refine w_ret ?_
          exact ret1 rfl rfl (fun w' hm => ⟨rfl, hm.base (by simp)⟩)
        · simp only [hb132, decide_eq_true_eq, decide_eq_false_iff_not, Bool.and_eq_true, Bool.or_eq_true, Bool.and_eq_false_iff, Bool.or_eq_false_iff, Bool.not_eq_true', Bool.not_eq_false', ne_eq, Decidable.not_not] at hc132
          refine w_skip ?_
          refine t_norm ?_
          refine w_seq ?_
          refine rg_text ?_
          refine x_val rfl rfl rfl (v_move rfl) ?_
          refine x_val rfl rfl rfl (v_move rfl) ?_
          refine x_valg rfl rfl rfl rfl rfl (v_move rfl) ?_
          refine x_boolg rfl rfl rfl rfl rfl (v_eql rfl rfl) ?_
          intro b136 hb136
          obtain rfl : b136 = true := hb136.trans (decide_eq_true k1)
          refine x_bool rfl rfl rfl (v_and rfl rfl) ?_
          intro b137 hb137
          obtain rfl : b137 = true := hb137
          refine x_val rfl rfl rfl (v_move rfl) ?_
          refine x_valg rfl rfl rfl rfl rfl (v_fieldAddr (off' := 7) Tryz.underlying35 rfl sz3 (by decide) rfl rfl) ?_
          refine x_valg rfl rfl rfl rfl rfl (v_load Tryz.underlying3 rfl rfl (at_ownL (vs := (xG P G PD).cells) (.head _) rfl)) ?_
          refine x_valg rfl rfl rfl rfl rfl (v_move rfl) ?_
          refine x_boolg rfl rfl rfl rfl rfl (v_eql rfl rfl) ?_
          intro b142 hb142
          obtain rfl : b142 = true := hb142.trans (decide_eq_true k4)
          refine x_bool rfl rfl rfl (v_and rfl rfl) ?_
          intro b143 hb143
          obtain rfl : b143 = true := hb143
          refine x_val rfl rfl rfl (v_move rfl) ?_
          refine x_valg rfl rfl rfl rfl rfl (v_move rfl) ?_
          refine x_valg rfl rfl rfl rfl rfl (v_move rfl) ?_
          refine x_valg rfl rfl rfl rfl rfl (v_subi rfl rfl rfl (by first | omega | (dsimp only; omega))) ?_
          refine x_valg rfl rfl rfl rfl rfl (v_move rfl) ?_
          refine x_valg rfl rfl rfl rfl rfl (v_muli rfl rfl rfl (by first | omega | (dsimp only; omega))) ?_
          refine x_valg rfl rfl rfl rfl rfl (v_move rfl) ?_
          refine x_valg rfl rfl rfl rfl rfl (v_move rfl) ?_
          refine x_valg rfl rfl rfl rfl rfl (v_muli rfl rfl rfl (by first | omega | (dsimp only; omega))) ?_
          refine x_callbg rfl rfl rfl rfl rfl Tryz.func12 (by kernel_rfl) rfl (fun w1 hw1 => c_has (f := ⟨M, SP, E⟩) w1 (at_ownL (vs := fnC mF M) (.tail _ (.tail _ (.tail _ (.tail _ (.tail _ (.head _)))))) rfl w1 hw1) (hw1.own_at (mF, _) (.tail _ (.tail _ (.tail _ (.tail _ (.head _)))))) hF (fun i v hv => at_ownL (vs := fxC ⟨M, SP, E⟩) (.tail _ (.tail _ (.tail _ (.head _)))) hv w1 hw1) ((3 - N) * P) (N * R)) ?_
          intro b153 hb153
          obtain rfl : b153 = true := hb153.trans (by dsimp only; rw [k2, k3]; simp)
          refine x_bool rfl rfl rfl (v_and rfl rfl) ?_
          intro b154 hb154
          obtain rfl : b154 = true := hb154
          refine x_val rfl rfl rfl (v_move rfl) ?_
          refine x_valg rfl rfl rfl rfl rfl (v_move rfl) ?_
          refine x_callvg rfl rfl rfl rfl rfl Tryz.func15 (by kernel_rfl) rfl (fun w1 hw1 => c_bil 1 29999 w1 (by decide) (by decide)) ?_
          obtain ⟨_, bf1, bf2, bf3, bf4⟩ := bil_facts (n := 1) (r := 29999) (by decide) (by decide)
          refine x_turng (τ := Nat × Array MapEntry × Nat) (v := Value.int .i64 c2) (fun q => MapF Tryz.prog 3 q.2.1 (fO (some (X2, P)))) (fun q => (pO, Obj.cells (orC pF (min (max T 0) 1000000) q.1).toArray 58) :: (q.1, Obj.map q.2.1 q.2.2) :: (pX, Obj.cells (fxC F2).toArray 88) :: (mF, Obj.map esF ckF) :: (pF, Obj.cells (fnC mF M).toArray 83) :: [(p19, Obj.cells (xG P G PD).cells.toArray 35), (p5, Obj.cells [Value.int .i64 q0, .int .i64 q1, .int .i64 q2, .int .i64 q3].toArray 40)]) rfl rfl rfl rfl Tryz.func14 (by kernel_rfl) rfl (fun w1 hw1 => by
            have h := c_Pay (L := [(p19, Obj.cells (xG P G PD).cells.toArray 35), (p5, Obj.cells [Value.int .i64 q0, .int .i64 q1, .int .i64 q2, .int .i64 q3].toArray 40)]) (hw1.perm ((List.Perm.swap _ _ _).trans (.cons _ ((List.Perm.swap _ _ _).trans (.cons _ ((List.Perm.swap _ _ _).trans (.cons _ ((List.Perm.swap _ _ _).trans (.cons _ ((List.Perm.swap _ _ _).trans (.cons _ (.refl _)))))))))))) hF hO104 (by unfold fundOK; dsimp only; omega) (by omega) (ordR_G hP hbG hPD) ⟨hP.1, by omega⟩ (by simp) hL (bilT 1 29999) bf1 bf2 bf3 (yB 1 29999) bf4 rfl ⟨by show (0 : Int) ≤ 29999; omega, by show 29999 ≤ (999999999 : Int); omega⟩ ⟨by show (1 : Int) ≤ 1; omega, by show 1 ≤ (9999 : Int); omega⟩
            rw [hag] at h
            exact h) ?_
          rintro ⟨mO158, es158, ck158⟩ hO158
          dsimp only at hO158
          refine x_boolg rfl rfl rfl rfl rfl (v_eql rfl rfl) ?_
          intro b159 hb159
          refine x_valg rfl rfl rfl rfl rfl (v_move rfl) ?_
          refine x_boolg rfl rfl rfl rfl rfl (v_eql rfl rfl) ?_
          intro b161 hb161
          refine x_boolg rfl rfl rfl rfl rfl (v_beql rfl rfl Tryz.underlying4) ?_
          intro b162 hb162
          obtain rfl : b162 = true := hb162.trans (by rw [hb159, hb161]; simp only [hc2, decide_eq_true_eq]; simp; omega)
          refine x_bool rfl rfl rfl (v_and rfl rfl) ?_
          intro b163 hb163
          obtain rfl : b163 = true := hb163
          refine x_val rfl rfl rfl (v_assign rfl) ?_
          refine x_end ?_
          refine t_norm ?_
          refine w_ret ?_
          exact ret1 rfl rfl (fun w' hm => ⟨rfl, hm.base (by simp)⟩)

end Go.Proofs.YtdampedpgbnihaaGreatDoor

namespace Go.Proofs.YtdampedpgbnihaaGreatDoor
open Go.RowKit Go.PK
set_option linter.unusedVariables false
set_option linter.unusedSimpArgs false

def laidL : List (String × DataW Unit) := [("math/bits.deBruijn32tab", Rows.laid_math_bits_deBruijn32tab), ("math/bits.deBruijn64tab", Rows.laid_math_bits_deBruijn64tab), ("internal/strconv.uint64pow10", Rows.laid_internal_strconv_uint64pow10), ("unicode/utf8.acceptRanges", Rows.laid_unicode_utf8_acceptRanges), ("strconv.ErrRange", Rows.laid_strconv_ErrRange), ("strconv.ErrSyntax", Rows.laid_strconv_ErrSyntax), ("unicode/utf8.first", Rows.laid_unicode_utf8_first)]
theorem noHandle {W : World} (h : laidMetH Tryz.prog laidL W) : laidMet Tryz.prog laidL W := by
  have h1 := (laidMetH_iff.1 h).1
  rwa [show (laidL.filter fun x => x.2.handleName?.isNone) = laidL from by kernel_rfl] at h1
theorem laid_tab {W : World} (h : laidMet Tryz.prog laidL W) : Lib.TabIs Tryz.prog W "internal/strconv.uint64pow10" .u64 Lib.pow10Tab := by
  have h1 := h.filter fun x => x.1 == "internal/strconv.uint64pow10"
  have e : (laidL.filter fun x => x.1 == "internal/strconv.uint64pow10") = [("internal/strconv.uint64pow10", Lib.tabData .u64 Lib.pow10Tab)] := by kernel_rfl
  rw [e] at h1
  exact Lib.tabIs_of_head (g := 3) (t := 196) (e := 169) (n := 20) (by kernel_rfl) (by kernel_rfl) (by kernel_rfl) (by kernel_rfl) (by kernel_rfl) (by kernel_rfl) h1
theorem star : "*" ++ "errors.errorString" = "*errors.errorString" := by decide
theorem row104 (u : TypeId) (h : Tryz.prog.typeName? 3 u = some "*errors.errorString") : u = 187 :=
  typeName_ptr_named (nm := "errors.errorString") (by rw [star]; kernel_rfl) (by kernel_rfl) (by decide) u (by rw [star]; exact h)
theorem laid_syn {W : World} (h : laidMet Tryz.prog laidL W) : ∃ tp p, W.var? Tryz.prog "strconv.ErrSyntax" = some #[.iface tp p] := by
  have h1 := h.filter fun x => x.1 == "strconv.ErrSyntax"
  have e : (laidL.filter fun x => x.1 == "strconv.ErrSyntax") = [("strconv.ErrSyntax", .iface "*errors.errorString" (.ptr (.agg [.lit (.string [105, 110, 118, 97, 108, 105, 100, 32, 115, 121, 110, 116, 97, 120])])))] := by kernel_rfl
  rw [e] at h1
  obtain ⟨a0, s0, hv0, _⟩ := laid_sentinel (g := 0) (ti := 127) (tp := 187) (te := 189) (ts := 9) h1 (by kernel_rfl) (by kernel_rfl) Tryz.underlying127 row104 Tryz.underlying187 Tryz.underlying189 rfl rfl Tryz.underlying9 (by kernel_rfl) (by kernel_rfl)
  exact ⟨_, _, hv0⟩
theorem laid_rng {W : World} (h : laidMet Tryz.prog laidL W) : ∃ tp p, W.var? Tryz.prog "strconv.ErrRange" = some #[.iface tp p] := by
  have h1 := h.filter fun x => x.1 == "strconv.ErrRange"
  have e : (laidL.filter fun x => x.1 == "strconv.ErrRange") = [("strconv.ErrRange", .iface "*errors.errorString" (.ptr (.agg [.lit (.string [118, 97, 108, 117, 101, 32, 111, 117, 116, 32, 111, 102, 32, 114, 97, 110, 103, 101])])))] := by kernel_rfl
  rw [e] at h1
  obtain ⟨a0, s0, hv0, _⟩ := laid_sentinel (g := 1) (ti := 127) (tp := 187) (te := 189) (ts := 9) h1 (by kernel_rfl) (by kernel_rfl) Tryz.underlying127 row104 Tryz.underlying187 Tryz.underlying189 rfl rfl Tryz.underlying9 (by kernel_rfl) (by kernel_rfl)
  exact ⟨_, _, hv0⟩

theorem ld_of {W : World} (h : laidMetH Tryz.prog laidL W) (hS : W.ShapedOpen Tryz.prog) : LD W := ⟨laid_tab (noHandle h), Tryz.laysM146.s1_3 W hS, laid_syn (noHandle h), laid_rng (noHandle h)⟩
theorem laid_met (os : Os) (args : Array Value) : laidMet Tryz.prog laidL ((World.laidAll Tryz.prog os laidL).forCall (fun _ _ => 0) ⟨#[], args, []⟩).memory :=
  laidMet_laidAll args (by kernel_rfl) (by kernel_rfl)
theorem bulk_one {H : Type} (d : DataW H) : 1 ≤ Rows.uptoBulk d := by
  cases d with
  | lit l => cases l <;> simp [Rows.uptoBulk]
  | nil => simp [Rows.uptoBulk]
  | ptr d => simp [Rows.uptoBulk]
  | slice elems spare => simp [Rows.uptoBulk]
  | agg parts => simp [Rows.uptoBulk]
  | iface t d => simp [Rows.uptoBulk]
  | map entries => simp [Rows.uptoBulk]
  | held h => simp [Rows.uptoBulk]
def meas (H : Type) : Meas H := ⟨Rows.uptoBulk, Rows.uptoBulkAll, fun _ => by simp [Rows.uptoBulk], fun _ _ => by simp [Rows.uptoBulk], fun _ => by simp [Rows.uptoBulk], fun _ _ => by simp [Rows.uptoBulkAll], bulk_one⟩

end Go.Proofs.YtdampedpgbnihaaGreatDoor
