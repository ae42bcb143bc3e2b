/- Of the proofs of YtdampedpgbnihaaGreatDoor: Ym Yn Xx, put together. -/
import Derived.Test.YtdampedpgbnihaaGreatDoorC7
import Derived.Test.YtdampedpgbnihaaGreatDoorC5
import Derived.Lay
import Derived.LaidSub
import Derived.Lib.LaidTab
import Derived.Stop.LaidErr
import Derived.Deep.DeepHandedRow
import Derived.SevenTiedAt
import Derived.Test.YtdampedpgbnihaaGreatDoorC2
import Derived.Test.YtdampedpgbnihaaGreatDoorC1
import Derived.Test.YtdampedpgbnihaaGreatDoorC3
import Derived.Test.YtdampedpgbnihaaGreatDoorC4
import Derived.Test.YtdampedpgbnihaaGreatDoorC6
namespace Go.Proofs.YtdampedpgbnihaaGreatDoor
open Go.RowKit Go.PK
set_option linter.unusedVariables false
set_option linter.unusedSimpArgs false
def wantT (P R G N T M : Int) : Int := if N > G then 50 else if 1000 * max (R - P) (P - R) > T * P then 61 else if N * R > N * P + M - 3 * P then 60 else 0
def xG (P G PD : Int) : PK.Ord := { placedO (yO 3 P) with st := G, paid := PD }
theorem rec_three {P G M T : Int} (hG : 0 ≤ G ∧ G < 4) : receiveP ⟨⟨M, 0, 3 * P⟩, T, some (placedO (yO 3 P), P)⟩ 7 G = ((if G > 0 then 0 else 1), ⟨⟨M, 0, 3 * P⟩, T, some (xG P G 0, P)⟩) := by
  unfold receiveP lookO
  rw [if_pos rfl]
  show (if (0 : Int) = -1 then _ else if G < 1 ∨ G > 3 - 0 then _ else _) = _
  rw [if_neg (by omega)]
  by_cases h : G > 0
  · rw [if_neg (by omega), if_pos h]
    show (0, (⟨_, _, some ({ placedO (yO 3 P) with st := 0 + G }, P)⟩ : OSt)) = _
    rw [Int.zero_add]; rfl
  · have h0 : G = 0 := by omega
    subst h0
    rw [if_pos (by omega), if_neg h]; rfl
theorem inv_three {P R T N G M : Int} (hP : 0 ≤ P ∧ P < 20000) (hR : 0 ≤ R ∧ R < 30000) (hT : 0 ≤ T ∧ T < 900) (hN : 1 ≤ N ∧ N ≤ 4) (hG : 0 ≤ G ∧ G < 4) (hM : 3 * P ≤ M ∧ M ≤ 90000) : ∃ c SP E PD : Int, invoiceP ⟨⟨M, 0, 3 * P⟩, min (max T 0) 1000000, some (xG P G 0, P)⟩ (yB N R) = (c, ⟨⟨M, SP, E⟩, min (max T 0) 1000000, some (xG P G PD, P)⟩) ∧ (0 ≤ SP ∧ 0 ≤ E ∧ SP + E ≤ M) ∧ (0 ≤ PD ∧ PD ≤ 4) ∧
    ((c ≠ 0 ∧ c = wantT P R G N T M ∧ E = 3 * P ∧ SP = 0 ∧ PD = 0) ∨ (c = 0 ∧ wantT P R G N T M = 0 ∧ E = (3 - N) * P ∧ SP = N * R ∧ PD = N)) := by
  have htol : min (max T 0) 1000000 = T := by omega
  have hNR : 0 ≤ N * R := Int.mul_nonneg (by omega) hR.1
  have hNP : 0 ≤ N * P := Int.mul_nonneg (by omega) hP.1
  have hs : N * (P - R) = N * P - N * R := Int.mul_sub _ _ _
  have hs3 : (3 - N) * P = 3 * P - N * P := Int.sub_mul _ _ _
  have e1 : lookO ⟨⟨M, 0, 3 * P⟩, min (max T 0) 1000000, some (xG P G 0, P)⟩ (yB N R).id = some (xG P G 0, P) := if_pos rfl
  have hn : nearP (min (max T 0) 1000000) (yB N R).price (xG P G 0).price ↔ ¬1000 * max (R - P) (P - R) > T * P := by
    unfold nearP; rw [htol]; show 1000 * max (R - P) (P - R) ≤ T * P ↔ _; omega
  have ec : checkP (min (max T 0) 1000000) (yB N R) (some (xG P G 0, P)) = if N > G then 50 else if 1000 * max (R - P) (P - R) > T * P then 61 else 0 := by
    unfold checkP
    dsimp only
    rw [if_neg (show ¬(xG P G 0).st = -1 by show ¬G = -1; omega), if_neg (show ¬¬((xG P G 0).src = (yB N R).src ∧ (xG P G 0).num = (yB N R).num) from fun q => q ⟨rfl, rfl⟩)]
    show (if N > G - 0 then _ else _) = _
    rw [Int.sub_zero]
    by_cases h1 : N > G
    · rw [if_pos h1, if_pos h1]
    · rw [if_neg h1, if_neg h1]
      by_cases h2 : 1000 * max (R - P) (P - R) > T * P
      · rw [if_pos (fun q => (hn.1 q) h2), if_pos h2]
      · rw [if_neg (fun q => q (hn.2 h2)), if_neg h2]
  unfold invoiceP wantT
  rw [e1, ec]
  by_cases h1 : N > G
  · simp only [if_pos h1]
    rw [if_pos (show (50 : Int) ≠ 0 by decide)]
    exact ⟨50, 0, 3 * P, 0, rfl, by omega, by omega, .inl ⟨by decide, rfl, rfl, rfl, rfl⟩⟩
  simp only [if_neg h1]
  by_cases h2 : 1000 * max (R - P) (P - R) > T * P
  · simp only [if_pos h2]
    rw [if_pos (show (61 : Int) ≠ 0 by decide)]
    exact ⟨61, 0, 3 * P, 0, rfl, by omega, by omega, .inl ⟨by decide, rfl, rfl, rfl, rfl⟩⟩
  simp only [if_neg h2]
  rw [if_neg (show ¬(0 : Int) ≠ 0 by decide)]
  (try dsimp only)
  have ef : (⟨M, 0, 3 * P⟩ : FSt).free + (yB N R).copies * ((xG P G 0).price - (yB N R).price) = M - 3 * P + (N * P - N * R) := by
    rw [← hs]; show M - 0 - 3 * P + N * (P - R) = _; omega
  rw [ef]
  by_cases h3 : N * R > N * P + M - 3 * P
  · rw [if_pos (by omega), if_pos h3]
    exact ⟨60, 0, 3 * P, 0, rfl, by omega, by omega, .inl ⟨by decide, rfl, rfl, rfl, rfl⟩⟩
  rw [if_neg (by omega), if_neg h3]
  have hN3 : N * P ≤ 3 * P := Int.mul_le_mul_of_nonneg_right (by omega) hP.1
  have ep : paidF ⟨M, 0, 3 * P⟩ (xG P G 0) (yB N R) = ⟨M, N * R, 3 * P - N * P⟩ := by
    have er : (relP ⟨M, 0, 3 * P⟩ ((yB N R).copies * (xG P G 0).price)).2 = ⟨M, 0, 3 * P - N * P⟩ := by
      show (relP ⟨M, 0, 3 * P⟩ (N * P)).2 = _
      unfold relP; rw [if_neg (by omega), if_neg (by show ¬N * P > 3 * P; omega)]
    unfold paidF
    rw [er]
    show (spdP _ (N * R)).2 = _
    unfold spdP FSt.free
    dsimp only
    rw [if_neg (by omega), if_neg (by omega), Int.zero_add]
  rw [ep]
  refine ⟨0, N * R, 3 * P - N * P, N, ?_, by omega, by omega, .inr ⟨rfl, rfl, hs3.symm, rfl, rfl⟩⟩
  show (0, (⟨_, _, some ({ xG P G 0 with paid := 0 + N }, P)⟩ : OSt)) = _
  rw [Int.zero_add]; rfl
theorem ordR_G {P G PD : Int} (hP : 0 ≤ P ∧ P < 20000) (hG : 0 ≤ G ∧ G < 4) (hD : 0 ≤ PD ∧ PD ≤ 4) : ordR (xG P G PD) := by
  unfold ordR xG placedO yO; dsimp only; omega
end Go.Proofs.YtdampedpgbnihaaGreatDoor

namespace Go.Proofs.YtdampedpgbnihaaGreatDoor
open Go.RowKit Go.PK
set_option linter.unusedVariables false
set_option linter.unusedSimpArgs false
def xZ (P D : Int) : PK.Ord := ⟨7, 2, 1, 5, 3, P, D, D, -1⟩
def yP : PK.Ord := ⟨7, 2, 0, 0, 1, 1, 0, 0, 0⟩
theorem yP_w : writB yP = true := (writB_iff _).2 (by unfold wrO yP; decide)
theorem yP_A : yP.okA := by refine ⟨⟨?_, ?_, ?_, ?_, ?_, ?_⟩, ?_, ?_, ?_⟩ <;> (unfold yP in64; decide)
theorem rec_ok {P G M T : Int} (hG : 0 ≤ G ∧ G < 4) (h : 0 < G) : receiveP ⟨⟨M, 0, 3 * P⟩, T, some (placedO (yO 3 P), P)⟩ 7 G = (0, ⟨⟨M, 0, 3 * P⟩, T, some (xG P G 0, P)⟩) := by
  rw [rec_three hG, if_pos h]
theorem pay_c {P G D : Int} (hP : 0 ≤ P ∧ P < 20000) (hG : 0 ≤ G ∧ G < 4) (hD : 0 < D ∧ D ≤ G) : invoiceP ⟨⟨70000, 0, 3 * P⟩, min (max 0 0) 1000000, some (xG P G 0, P)⟩ (yB D P) = (0, ⟨⟨70000, D * P, (3 - D) * P⟩, min (max 0 0) 1000000, some (xG P G D, P)⟩) := by
  obtain ⟨c, SP, E, PD, h, _, _, hc⟩ := inv_three (R := P) (T := 0) (N := D) (M := 70000) hP (by omega) (by decide) (by omega) hG (by omega)
  have hw : wantT P P G D 0 70000 = 0 := by
    unfold wantT
    rw [if_neg (by omega), if_neg (by omega), if_neg (by omega)]
  rcases hc with ⟨h1, h2, _⟩ | ⟨h1, _, h3, h4, h5⟩
  · exact absurd (h2.trans hw) h1
  · subst h1 h3 h4 h5; exact h
theorem can_c {P G D T : Int} (hP : 0 ≤ P ∧ P < 20000) (hG : 0 ≤ G ∧ G < 4) (hD : 0 ≤ D ∧ D ≤ G) : ∃ (c E : Int) (X : PK.Ord), cancelP ⟨⟨70000, D * P, (3 - D) * P⟩, T, some (xG P G D, P)⟩ 7 = (c, ⟨⟨70000, D * P, E⟩, T, some (X, P)⟩) ∧ fundOK ⟨70000, D * P, E⟩ ∧
    ((G > D ∧ c = 50 ∧ E = (3 - D) * P ∧ X = xG P G D) ∨ (¬G > D ∧ c = 0 ∧ E = 0 ∧ X = xZ P D)) := by
  have h1 : 0 ≤ D * P := Int.mul_nonneg hD.1 hP.1
  have h2 : 0 ≤ (3 - D) * P := Int.mul_nonneg (by omega) hP.1
  have h3 : (3 - D) * P = 3 * P - D * P := Int.sub_mul _ _ _
  have e1 : lookO ⟨⟨70000, D * P, (3 - D) * P⟩, T, some (xG P G D, P)⟩ 7 = some (xG P G D, P) := if_pos rfl
  unfold cancelP
  rw [e1]
  dsimp only
  by_cases h : G > D
  · rw [if_pos (show (xG P G D).st = -1 ∨ (xG P G D).st > (xG P G D).paid from .inr h)]
    exact ⟨50, _, _, rfl, by unfold fundOK; dsimp only; omega, .inl ⟨h, rfl, rfl, rfl⟩⟩
  · rw [if_neg (show ¬((xG P G D).st = -1 ∨ (xG P G D).st > (xG P G D).paid) by show ¬(G = -1 ∨ G > D); omega)]
    have er : relP ⟨70000, D * P, (3 - D) * P⟩ (resP (xG P G D)) = (0, ⟨70000, D * P, 0⟩) := by
      show relP _ ((3 - D) * P) = _
      unfold relP; dsimp only; rw [if_neg (by omega), if_neg (by omega), Int.sub_self]
    rw [er, if_neg (show ¬(0 : Int) ≠ 0 by decide)]
    exact ⟨0, 0, xZ P D, rfl, by unfold fundOK; dsimp only; omega, .inr ⟨h, rfl, rfl, rfl⟩⟩
theorem ordR_Z {P D : Int} (hP : 0 ≤ P ∧ P < 20000) (hD : 0 ≤ D ∧ D < 4) : ordR (xZ P D) := by
  unfold ordR xZ; dsimp only; omega
section
variable {F : FSt} {T P D : Int}
theorem look_z (id : Int) (h : id = 7) : lookO ⟨F, T, some (xZ P D, P)⟩ id = some (xZ P D, P) := if_pos h
theorem can_z : cancelP ⟨F, T, some (xZ P D, P)⟩ 7 = (50, ⟨F, T, some (xZ P D, P)⟩) := by
  unfold cancelP; rw [look_z 7 rfl]; exact if_pos (.inl rfl)
theorem rec_z : receiveP ⟨F, T, some (xZ P D, P)⟩ 7 1 = (50, ⟨F, T, some (xZ P D, P)⟩) := by
  unfold receiveP; rw [look_z 7 rfl]; exact if_pos rfl
theorem ans_z : answerP ⟨F, T, some (xZ P D, P)⟩ (yO 1 P) 0 = (50, ⟨F, T, some (xZ P D, P)⟩) := by
  unfold answerP; rw [if_neg (show ¬(0 : Int) ≠ 0 by decide), show lookO ⟨F, T, some (xZ P D, P)⟩ (yO 1 P).id = some (xZ P D, P) from if_pos rfl]; exact if_pos (.inl (show (-1 : Int) ≠ 0 by decide))
theorem pay_z : invoiceP ⟨F, T, some (xZ P D, P)⟩ (yB 1 P) = (50, ⟨F, T, some (xZ P D, P)⟩) := by
  have ec : checkP T (yB 1 P) (some (xZ P D, P)) = 50 := by unfold checkP; exact if_pos rfl
  unfold invoiceP; rw [show lookO ⟨F, T, some (xZ P D, P)⟩ (yB 1 P).id = some (xZ P D, P) from if_pos rfl]; dsimp only; rw [ec]; exact if_pos (by decide)
end
theorem eqRecB (w : World) (a b a' b' : Int) : (Op.equalIn 9999 33 (.agg #[.int .i64 a, .int .i64 b]) (.agg #[.int .i64 a', .int .i64 b'])).run Tryz.prog w = .ok (decide (a = a' ∧ b = b')) w := by
  have hf : (Tryz.prog.fieldsOf 33).toList = [⟨ "Source", 3, 0, false, "", "", 0⟩, ⟨ "Number", 3, 1, false, "", "", 8⟩] := by kernel_rfl
  rw [run_equalIn_struct w 9998 33 _ _ (by kernel_rfl) (by kernel_rfl), hf]
  simp only [Op.eqFields, part]
  simp [run_isAgg Tryz.underlying3, PK.run_sizeOf sz3, aggT, run_equalIn_int w 9997 3 .i64 .i64 _ _ Tryz.underlying3]
  by_cases h1 : a = a' <;> by_cases h2 : b = b' <;> simp [h1, h2]
theorem eqOrdB (w : World) (r s : Ord) : (Op.equalIn 10000 35 (.agg r.cells.toArray) (.agg s.cells.toArray)).run Tryz.prog w = .ok (decide (r = s)) w := by
  have hf : (Tryz.prog.fieldsOf 35).toList = [⟨ "Id", 3, 0, false, "", "", 0⟩, ⟨ "Fund", 3, 1, false, "", "", 8⟩, ⟨ "Rec", 33, 2, false, "", "", 16⟩, ⟨ "Copies", 3, 4, false, "", "", 32⟩, ⟨ "Price", 3, 5, false, "", "", 40⟩, ⟨ "Promised", 3, 6, false, "", "", 48⟩, ⟨ "Paid", 3, 7, false, "", "", 56⟩, ⟨ "State", 3, 8, false, "", "", 64⟩] := by kernel_rfl
  rw [run_equalIn_struct w 9999 35 _ _ (by kernel_rfl) (by kernel_rfl), hf]
  simp only [Op.eqFields, part, Ord.cells]
  obtain ⟨r1, r2, r3, r4, r5, r6, r7, r8, r9⟩ := r
  obtain ⟨s1, s2, s3, s4, s5, s6, s7, s8, s9⟩ := s
  simp [run_isAgg Tryz.underlying3, run_isAgg Tryz.underlying33, PK.run_sizeOf sz3, PK.run_sizeOf sz33, aggT, run_equalIn_int w 9998 3 .i64 .i64 _ _ Tryz.underlying3, eqRecB, Ord.mk.injEq]
  by_cases h1 : r1 = s1 <;> by_cases h2 : r2 = s2 <;> by_cases h3 : r3 = s3 <;> by_cases h4 : r4 = s4 <;> by_cases h5 : r5 = s5 <;> by_cases h6 : r6 = s6 <;> by_cases h7 : r7 = s7 <;> by_cases h8 : r8 = s8 <;> by_cases h9 : r9 = s9 <;> simp [h1, h2, h3, h4, h5, h6, h7, h8, h9]

set_option maxHeartbeats 4000000 in
set_option maxRecDepth 100000 in
theorem lawCancel (price q0 q1 : Int) (w : World) (hi : in64 price ∧ (0 ≤ q0 ∧ q0 ≤ 255) ∧ (0 ≤ q1 ∧ q1 ≤ 255)) (hL : LD w) :
    Calls Tryz.prog 5 #[.int .i64 price, .agg #[.int .u8 q0, .int .u8 q1]] w fun e w' => e = .returned (.bool (true)) ∧ Later w w' := by
  refine enter (vs := [.int .i64 price, .agg #[.int .u8 q0, .int .u8 q1]]) Tryz.func5 rfl Tryz.ntmps5 rfl ?_
  refine w_seq ?_
  refine rg_text ?_
  refine x_box rfl rfl rfl rfl ?_
  intro p3
  refine x_val rfl rfl rfl (v_assign rfl) ?_
  refine x_end ?_
  refine t_norm ?_
  refine w_seq ?_
  refine rg_text ?_
  refine x_callb rfl rfl rfl Tryz.func6 (by kernel_rfl) rfl (fun w1 hw1 => c_sane w1 (hL.later (hw1.base (by simp)))) ?_
  intro b18 hb18
  obtain rfl : b18 = true := hb18
  refine x_val rfl rfl rfl (v_assign rfl) ?_
  refine x_end ?_
  refine t_norm ?_
  refine w_seq ?_
  refine rg_text ?_
  refine x_val rfl rfl rfl (v_move rfl) ?_
  obtain ⟨P, hP⟩ : ∃ x, price % 20000 = x := ⟨_, rfl⟩
  have hbP := mod_b price (m := 20000) (by decide)
  rw [hP] at hbP
  refine x_callv (v := Value.int .i64 P) rfl rfl rfl Tryz.func7 (by kernel_rfl) rfl (fun w1 hw1 => by have h := c_Md price 20000 w1 hi.1 (by decide); rw [hP] at h; exact h) ?_
  refine x_val rfl rfl rfl (v_assign rfl) ?_
  refine x_end ?_
  refine t_norm ?_
  refine w_seq ?_
  refine rg_text ?_
  refine x_val rfl rfl rfl (v_indexArr (j := 0) (off' := 0) Tryz.underlying43 sz5 rfl rfl (by first | omega | (dsimp only; omega)) rfl) ?_
  refine x_val rfl rfl rfl (v_load Tryz.underlying5 rfl rfl (at_ownL (vs := [Value.int .u8 q0, .int .u8 q1]) (.head _) rfl)) ?_
  obtain ⟨G, hG⟩ : ∃ x, q0 % 4 = x := ⟨_, rfl⟩
  have hbG : 0 ≤ G ∧ G < 4 := by omega
  refine x_val (v := Value.int .u8 G) rfl rfl rfl (by rw [← hG, ← Int.tmod_eq_emod_of_nonneg hi.2.1.1]; exact v_rem rfl rfl (by decide)) ?_
  refine x_val (v := Value.int .i64 G) rfl rfl rfl (v_conv64 Tryz.underlying5 Tryz.underlying3 rfl (by omega)) ?_
  refine x_val rfl rfl rfl (v_assign rfl) ?_
  refine x_end ?_
  refine t_norm ?_
  refine w_seq ?_
  refine rg_text ?_
  refine x_val rfl rfl rfl (v_indexArr (j := 1) (off' := 1) Tryz.underlying43 sz5 rfl rfl (by first | omega | (dsimp only; omega)) rfl) ?_
  refine x_val rfl rfl rfl (v_load Tryz.underlying5 rfl rfl (at_ownL (vs := [Value.int .u8 q0, .int .u8 q1]) (.head _) rfl)) ?_
  obtain ⟨D0, hD0⟩ : ∃ x, q1 % 4 = x := ⟨_, rfl⟩
  have hbD0 : 0 ≤ D0 ∧ D0 < 4 := by omega
  refine x_val (v := Value.int .u8 D0) rfl rfl rfl (by rw [← hD0, ← Int.tmod_eq_emod_of_nonneg hi.2.2.1]; exact v_rem rfl rfl (by decide)) ?_
  refine x_val (v := Value.int .i64 D0) rfl rfl rfl (v_conv64 Tryz.underlying5 Tryz.underlying3 rfl (by omega)) ?_
  refine x_val rfl rfl rfl (v_move rfl) ?_
  obtain ⟨D, hD⟩ : ∃ x, min D0 G = x := ⟨_, rfl⟩
  have hbD : 0 ≤ D ∧ D ≤ G ∧ D < 4 := by omega
  refine x_val (v := Value.int .i64 D) rfl rfl rfl (by rw [← hD]; exact v_min rfl rfl) ?_
  refine x_val rfl rfl rfl (v_assign rfl) ?_
  refine x_end ?_
  refine t_norm ?_
  refine w_seq ?_
  refine rg_text ?_
  refine x_val rfl rfl rfl (v_move rfl) ?_
  have hP : 0 ≤ P ∧ P < 20000 := hbP
  have hm1 : 0 ≤ D * P ∧ D * P ≤ 4 * 20000 := ⟨Int.mul_nonneg (by omega) hP.1, Int.mul_le_mul (by omega) (by omega) hP.1 (by decide)⟩
  have hm4 : (3 - D) * P = 3 * P - D * P := Int.sub_mul _ _ _
  have hm5 : 0 ≤ (3 - D) * P := Int.mul_nonneg (by omega) hP.1
  refine x_own (τ := Nat × Nat × Nat × Nat × Nat × Array MapEntry × Nat × Array MapEntry × Nat) (fun x => .tuple #[.pointer (some ⟨x.2.2.2.1, 0, none⟩), .pointer (some ⟨x.2.2.1, 0, none⟩), .int .i64 0]) (fun x => MapF Tryz.prog 3 x.2.2.2.2.2.1 (fF x.1) ∧ MapF Tryz.prog 3 x.2.2.2.2.2.2.2.1 (fO (some ((placedO (yO 3 P)), P)))) (fun x => (x.2.2.2.1, Obj.cells (orC x.2.2.1 (min (max 0 0) 1000000) x.2.2.2.2.1).toArray 58) :: (x.2.2.2.2.1, Obj.map x.2.2.2.2.2.2.2.1 x.2.2.2.2.2.2.2.2) :: (x.1, Obj.cells (fxC ⟨70000, 0, 3 * P⟩).toArray 88) :: (x.2.1, Obj.map x.2.2.2.2.2.1 x.2.2.2.2.2.2.1) :: (x.2.2.1, Obj.cells (fnC x.2.1 70000).toArray 83) :: [(p3, Obj.cells [Value.int .u8 q0, .int .u8 q1].toArray 43)]) rfl rfl rfl Tryz.func8 (by kernel_rfl) rfl (fun w1 hw1 => (c_One 70000 0 P w1 (hL.later (hw1.base (by simp))) ⟨hP.1, by omega⟩ ⟨by omega, by decide⟩).mono fun e w2 ⟨x, h1, h2, h3⟩ => ⟨x, h1, h3.base (by simp), h2, hw1.join2 h3⟩) ?_
  rintro ⟨pX, mF, pF, pO, mO, esF, ckF, esO, ckO⟩ ⟨hF, hO⟩
  dsimp only at hF hO
  refine x_val rfl rfl rfl (v_move rfl) ?_
  refine x_val rfl rfl rfl (v_extract rfl rfl) ?_
  refine x_val rfl rfl rfl (v_extract rfl rfl) ?_
  refine x_val rfl rfl rfl (v_extract rfl rfl) ?_
  refine x_val rfl rfl rfl (v_assign rfl) ?_
  refine x_val rfl rfl rfl (v_assign rfl) ?_
  refine x_val rfl rfl rfl (v_assign rfl) ?_
  refine x_end ?_
  refine t_norm ?_
  refine w_seq ?_
  refine w_seq ?_
  refine rg_text ?_
  refine x_val rfl rfl rfl (v_move rfl) ?_
  refine x_bool rfl rfl rfl (v_pnil (o := some ⟨pO, 0, none⟩) Tryz.underlying25 rfl rfl) ?_
  intro b38 hb38
  obtain rfl : b38 = false := hb38
  refine x_val rfl rfl rfl (v_move rfl) ?_
  refine x_valg rfl rfl rfl rfl rfl (v_move rfl) ?_
  refine x_boolg rfl rfl rfl rfl rfl (v_pnil (o := some ⟨pF, 0, none⟩) Tryz.underlying26 rfl rfl) ?_
  intro b41 hb41
  obtain rfl : b41 = false := hb41
  refine x_bool rfl rfl rfl (v_or rfl rfl) ?_
  intro b42 hb42
  obtain rfl : b42 = false := hb42
  refine x_val rfl rfl rfl (v_move rfl) ?_
  refine x_valg rfl rfl rfl rfl rfl (v_move rfl) ?_
  refine x_boolg rfl rfl rfl rfl rfl (v_neq rfl rfl) ?_
  intro b45 hb45
  obtain rfl : b45 = false := hb45
  refine x_bool rfl rfl rfl (v_or rfl rfl) ?_
  intro b46 hb46
  obtain rfl : b46 = false := hb46
  refine x_end ?_
  refine t_norm ?_
  refine w_cond rfl (fun hc46 => ?_) (fun hc46 => ?_)
  · cases hc46
  · skip
    refine w_skip ?_
    refine t_norm ?_
    refine w_seq_cut (σ := Nat × Array MapEntry × Nat) (fun z => MapF Tryz.prog 3 z.2.1 (fO (some (xG P G D, P)))) (fun z => [(3, Value.pointer (some ⟨p3, 0, none⟩)), (5, Value.bool true), (6, Value.int .i64 P), (7, Value.int .i64 G), (8, Value.int .i64 D), (9, Value.pointer (some ⟨pO, 0, none⟩)), (10, Value.pointer (some ⟨pF, 0, none⟩))]) (fun z => (pO, Obj.cells (orC pF (min (max 0 0) 1000000) z.1).toArray 58) :: (z.1, Obj.map z.2.1 z.2.2) :: (pX, Obj.cells (fxC ⟨70000, D * P, (3 - D) * P⟩).toArray 88) :: (mF, Obj.map esF ckF) :: (pF, Obj.cells (fnC mF 70000).toArray 83) :: [(p3, Obj.cells [Value.int .u8 q0, .int .u8 q1].toArray 43)]) (fun z => [(w, fun _ => True)]) ?_ ?_
    · refine w_seq ?_
      rcases (show G = 0 ∧ D = 0 ∨ 0 < G ∧ D = 0 ∨ 0 < G ∧ 0 < D by omega) with ⟨hA1, hA2⟩ | ⟨hB1, hB2⟩ | ⟨hC1, hC2⟩
      · subst hA1 hA2
        refine rg_text ?_
        refine x_val rfl rfl rfl (v_move rfl) ?_
        refine x_bool rfl rfl rfl (v_gtr rfl rfl) ?_
        intro b48 hb48
        obtain rfl : b48 = false := hb48
        refine x_val rfl rfl rfl (v_move rfl) ?_
        refine x_no rfl rfl rfl rfl rfl ?_
        refine x_no rfl rfl rfl rfl rfl ?_
        refine x_no rfl rfl rfl rfl rfl ?_
        refine x_no rfl rfl rfl rfl rfl ?_
        refine x_bool rfl rfl rfl (v_and (v := false) rfl rfl) ?_
        intro b54 hb54
        obtain rfl : b54 = false := hb54
        refine x_val rfl rfl rfl (v_move rfl) ?_
        refine x_valg rfl rfl rfl rfl rfl (v_move rfl) ?_
        refine x_boolg rfl rfl rfl rfl rfl (v_gtr rfl rfl) ?_
        intro b57 hb57
        obtain rfl : b57 = false := hb57
        refine x_valg rfl rfl rfl rfl rfl (v_move rfl) ?_
        refine x_no rfl rfl rfl rfl rfl ?_
        refine x_no rfl rfl rfl rfl rfl ?_
        refine x_no rfl rfl rfl rfl rfl ?_
        refine x_no rfl rfl rfl rfl rfl ?_
        refine x_no rfl rfl rfl rfl rfl ?_
        refine x_no rfl rfl rfl rfl rfl ?_
        refine x_boolg rfl rfl rfl rfl rfl (v_and (v := false) rfl rfl) ?_
        intro b65 hb65
        obtain rfl : b65 = false := hb65
        refine x_bool rfl rfl rfl (v_or rfl rfl) ?_
        intro b66 hb66
        obtain rfl : b66 = false := hb66
        refine x_end ?_
        refine t_norm ?_
        refine w_cond rfl (fun hc66 => ?_) (fun hc66 => ?_)
        · cases hc66
        · skip
          refine w_skip ?_
          have hf0 : (⟨70000, 0, 3 * P⟩ : FSt) = ⟨70000, 0 * P, (3 - 0) * P⟩ := by simp
          exact c_norm (mO, esO, ckO) hO (by repeat (first | exact Sub.nil | refine Sub.cons rfl ?_)) (fun _ h => by rw [hf0] at h; exact h)
      · subst hB2
        refine rg_text ?_
        refine x_val rfl rfl rfl (v_move rfl) ?_
        refine x_bool rfl rfl rfl (v_gtr rfl rfl) ?_
        intro b48 hb48
        obtain rfl : b48 = true := hb48.trans (decide_eq_true hB1)
        refine x_val rfl rfl rfl (v_move rfl) ?_
        refine x_valg rfl rfl rfl rfl rfl (v_move rfl) ?_
        refine x_valg rfl rfl rfl rfl rfl (v_move rfl) ?_
        refine x_turng (τ := Array MapEntry × Nat) (v := Value.int .i64 0) (fun q => MapF Tryz.prog 3 q.1 (fO (some ((xG P G 0), P)))) (fun q => (pO, Obj.cells (orC pF (min (max 0 0) 1000000) mO).toArray 58) :: (mO, Obj.map q.1 q.2) :: (pX, Obj.cells (fxC ⟨70000, 0, 3 * P⟩).toArray 88) :: (mF, Obj.map esF ckF) :: (pF, Obj.cells (fnC mF 70000).toArray 83) :: [(p3, Obj.cells [Value.int .u8 q0, .int .u8 q1].toArray 43)]) rfl rfl rfl rfl Tryz.func13 (by kernel_rfl) rfl (fun w1 hw1 => by
          have h := c_Receive (L := [(p3, Obj.cells [Value.int .u8 q0, .int .u8 q1].toArray 43)]) hw1 hF hO (by unfold fundOK; dsimp only; omega) (by decide) (ordR_y hP) ⟨hP.1, by omega⟩ (G) ⟨by omega, by omega⟩
          rw [rec_ok hbG (by assumption)] at h
          exact h) ?_
        rintro ⟨es52, ck52⟩ hO52
        dsimp only at hO52
        refine x_boolg rfl rfl rfl rfl rfl (v_neq rfl rfl) ?_
        intro b53 hb53
        obtain rfl : b53 = false := hb53
        refine x_bool rfl rfl rfl (v_and rfl rfl) ?_
        intro b54 hb54
        obtain rfl : b54 = false := hb54
        refine x_val rfl rfl rfl (v_move rfl) ?_
        refine x_valg rfl rfl rfl rfl rfl (v_move rfl) ?_
        refine x_boolg rfl rfl rfl rfl rfl (v_gtr rfl rfl) ?_
        intro b57 hb57
        obtain rfl : b57 = false := hb57
        refine x_valg rfl rfl rfl rfl rfl (v_move rfl) ?_
        refine x_no rfl rfl rfl rfl rfl ?_
        refine x_no rfl rfl rfl rfl rfl ?_
        refine x_no rfl rfl rfl rfl rfl ?_
        refine x_no rfl rfl rfl rfl rfl ?_
        refine x_no rfl rfl rfl rfl rfl ?_
        refine x_no rfl rfl rfl rfl rfl ?_
        refine x_boolg rfl rfl rfl rfl rfl (v_and (v := false) rfl rfl) ?_
        intro b65 hb65
        obtain rfl : b65 = false := hb65
        refine x_bool rfl rfl rfl (v_or rfl rfl) ?_
        intro b66 hb66
        obtain rfl : b66 = false := hb66
        refine x_end ?_
        refine t_norm ?_
        refine w_cond rfl (fun hc66 => ?_) (fun hc66 => ?_)
        · cases hc66
        · skip
          refine w_skip ?_
          have hf0 : (⟨70000, 0, 3 * P⟩ : FSt) = ⟨70000, 0 * P, (3 - 0) * P⟩ := by simp
          exact c_norm (mO, es52, ck52) hO52 (by repeat (first | exact Sub.nil | refine Sub.cons rfl ?_)) (fun _ h => by rw [hf0] at h; exact h)
      · skip
        refine rg_text ?_
        refine x_val rfl rfl rfl (v_move rfl) ?_
        refine x_bool rfl rfl rfl (v_gtr rfl rfl) ?_
        intro b48 hb48
        obtain rfl : b48 = true := hb48.trans (decide_eq_true hC1)
        refine x_val rfl rfl rfl (v_move rfl) ?_
        refine x_valg rfl rfl rfl rfl rfl (v_move rfl) ?_
        refine x_valg rfl rfl rfl rfl rfl (v_move rfl) ?_
        refine x_turng (τ := Array MapEntry × Nat) (v := Value.int .i64 0) (fun q => MapF Tryz.prog 3 q.1 (fO (some ((xG P G 0), P)))) (fun q => (pO, Obj.cells (orC pF (min (max 0 0) 1000000) mO).toArray 58) :: (mO, Obj.map q.1 q.2) :: (pX, Obj.cells (fxC ⟨70000, 0, 3 * P⟩).toArray 88) :: (mF, Obj.map esF ckF) :: (pF, Obj.cells (fnC mF 70000).toArray 83) :: [(p3, Obj.cells [Value.int .u8 q0, .int .u8 q1].toArray 43)]) rfl rfl rfl rfl Tryz.func13 (by kernel_rfl) rfl (fun w1 hw1 => by
          have h := c_Receive (L := [(p3, Obj.cells [Value.int .u8 q0, .int .u8 q1].toArray 43)]) hw1 hF hO (by unfold fundOK; dsimp only; omega) (by decide) (ordR_y hP) ⟨hP.1, by omega⟩ (G) ⟨by omega, by omega⟩
          rw [rec_ok hbG (by assumption)] at h
          exact h) ?_
        rintro ⟨es52, ck52⟩ hO52
        dsimp only at hO52
        refine x_boolg rfl rfl rfl rfl rfl (v_neq rfl rfl) ?_
        intro b53 hb53
        obtain rfl : b53 = false := hb53
        refine x_bool rfl rfl rfl (v_and rfl rfl) ?_
        intro b54 hb54
        obtain rfl : b54 = false := hb54
        refine x_val rfl rfl rfl (v_move rfl) ?_
        refine x_valg rfl rfl rfl rfl rfl (v_move rfl) ?_
        refine x_boolg rfl rfl rfl rfl rfl (v_gtr rfl rfl) ?_
        intro b57 hb57
        obtain rfl : b57 = true := hb57.trans (decide_eq_true hC2)
        refine x_valg rfl rfl rfl rfl rfl (v_move rfl) ?_
        refine x_valg rfl rfl rfl rfl rfl (v_move rfl) ?_
        refine x_valg rfl rfl rfl rfl rfl (v_move rfl) ?_
        refine x_valg rfl rfl rfl rfl rfl (v_move rfl) ?_
        refine x_callvg rfl rfl rfl rfl rfl Tryz.func15 (by kernel_rfl) rfl (fun w1 hw1 => c_bil D P w1 (by omega) (by omega)) ?_
        obtain ⟨_, bf1, bf2, bf3, bf4⟩ := bil_facts (n := D) (r := P) (by omega) (by omega)
        refine x_turng (τ := Nat × Array MapEntry × Nat) (v := Value.int .i64 0) (fun q => MapF Tryz.prog 3 q.2.1 (fO (some ((xG P G D), P)))) (fun q => (pO, Obj.cells (orC pF (min (max 0 0) 1000000) q.1).toArray 58) :: (q.1, Obj.map q.2.1 q.2.2) :: (pX, Obj.cells (fxC ⟨70000, D * P, (3 - D) * P⟩).toArray 88) :: (mF, Obj.map esF ckF) :: (pF, Obj.cells (fnC mF 70000).toArray 83) :: [(p3, Obj.cells [Value.int .u8 q0, .int .u8 q1].toArray 43)]) rfl rfl rfl rfl Tryz.func14 (by kernel_rfl) rfl (fun w1 hw1 => by
          have h := c_Pay (L := [(p3, Obj.cells [Value.int .u8 q0, .int .u8 q1].toArray 43)]) hw1 hF hO52 (by unfold fundOK; dsimp only; omega) (by decide) (ordR_G hP hbG (by decide)) ⟨hP.1, by omega⟩ (by simp) hL (bilT D P) bf1 bf2 bf3 (yB D P) bf4 rfl ⟨by show (0 : Int) ≤ P; omega, by show P ≤ (999999999 : Int); omega⟩ ⟨by show (1 : Int) ≤ D; omega, by show D ≤ (9999 : Int); omega⟩
          rw [pay_c hP hbG ⟨hC2, hbD.2.1⟩] at h
          exact h) ?_
        rintro ⟨mO63, es63, ck63⟩ hO63
        dsimp only at hO63
        refine x_boolg rfl rfl rfl rfl rfl (v_neq rfl rfl) ?_
        intro b64 hb64
        obtain rfl : b64 = false := hb64
        refine x_boolg rfl rfl rfl rfl rfl (v_and rfl rfl) ?_
        intro b65 hb65
        obtain rfl : b65 = false := hb65
        refine x_bool rfl rfl rfl (v_or rfl rfl) ?_
        intro b66 hb66
        obtain rfl : b66 = false := hb66
        refine x_end ?_
        refine t_norm ?_
        refine w_cond rfl (fun hc66 => ?_) (fun hc66 => ?_)
        · cases hc66
        · skip
          refine w_skip ?_
          exact c_norm (mO63, es63, ck63) hO63 (by repeat (first | exact Sub.nil | refine Sub.cons rfl ?_)) (fun _ h => h)
    · rintro ⟨mQ, esQ, ckQ⟩ hOQ
      refine w_state ([(3, Value.pointer (some ⟨p3, 0, none⟩)), (5, Value.bool true), (6, Value.int .i64 P), (7, Value.int .i64 G), (8, Value.int .i64 D), (9, Value.pointer (some ⟨pO, 0, none⟩)), (10, Value.pointer (some ⟨pF, 0, none⟩))]) ((pO, Obj.cells (orC pF (min (max 0 0) 1000000) mQ).toArray 58) :: (mQ, Obj.map esQ ckQ) :: (pX, Obj.cells (fxC ⟨70000, D * P, (3 - D) * P⟩).toArray 88) :: (mF, Obj.map esF ckF) :: (pF, Obj.cells (fnC mF 70000).toArray 83) :: [(p3, Obj.cells [Value.int .u8 q0, .int .u8 q1].toArray 43)]) ([(w, fun _ => True)]) ?_
      dsimp only at hOQ
      obtain ⟨c, E, X, hcan, hfo, hcase⟩ := can_c (T := (min (max 0 0) 1000000)) hP hbG (show 0 ≤ D ∧ D ≤ G by omega)
      refine w_seq ?_
      refine rg_text ?_
      refine x_val rfl rfl rfl (v_move rfl) ?_
      refine x_turnf (τ := Array MapEntry × Nat) (v := Value.int .i64 c) (fun q => MapF Tryz.prog 3 q.1 (fO (some (X, P)))) (fun q => (pO, Obj.cells (orC pF (min (max 0 0) 1000000) mQ).toArray 58) :: (mQ, Obj.map q.1 q.2) :: (pX, Obj.cells (fxC ⟨70000, D * P, E⟩).toArray 88) :: (mF, Obj.map esF ckF) :: (pF, Obj.cells (fnC mF 70000).toArray 83) :: [(p3, Obj.cells [Value.int .u8 q0, .int .u8 q1].toArray 43)]) rfl rfl Tryz.func16 (by kernel_rfl) rfl (fun w1 hw1 => by
        have h := c_Cancel (L := [(p3, Obj.cells [Value.int .u8 q0, .int .u8 q1].toArray 43)]) hw1 hF hOQ (by unfold fundOK; dsimp only; omega) (by decide) (ordR_G hP hbG (by omega)) ⟨hP.1, by omega⟩
        rw [hcan] at h
        exact h) ?_
      rintro ⟨es68, ck68⟩ hO68
      dsimp only at hO68
      refine x_val rfl rfl rfl (v_assign rfl) ?_
      refine x_end ?_
      refine t_norm ?_
      refine w_seq ?_
      refine w_seq ?_
      refine rg_text ?_
      refine x_val rfl rfl rfl (v_move rfl) ?_
      refine x_val rfl rfl rfl (v_move rfl) ?_
      refine x_bool rfl rfl rfl (v_gtr rfl rfl) ?_
      intro b71 hb71
      refine x_end ?_
      refine t_norm ?_
      refine w_cond rfl (fun hc71 => ?_) (fun hc71 => ?_)
      · simp only [hb71, decide_eq_true_eq, decide_eq_false_iff_not, Bool.and_eq_true, Bool.or_eq_true, Bool.and_eq_false_iff, Bool.or_eq_false_iff, Bool.not_eq_true', Bool.not_eq_false', ne_eq, Decidable.not_not] at hc71
        obtain ⟨k1, k2⟩ : c = 50 ∧ E = (3 - D) * P := by rcases hcase with ⟨_, h1, h2, _⟩ | ⟨h, _⟩; (· exact ⟨h1, h2⟩); exact absurd hc71 h
        refine w_seq ?_
        refine rg_text ?_
        refine x_val rfl rfl rfl (v_move rfl) ?_
        refine x_val rfl rfl rfl (v_move rfl) ?_
        refine x_valg rfl rfl rfl rfl rfl (v_move rfl) ?_
        refine x_boolg rfl rfl rfl rfl rfl (v_eql rfl rfl) ?_
        intro b75 hb75
        obtain rfl : b75 = true := hb75.trans (decide_eq_true k1)
        refine x_bool rfl rfl rfl (v_and rfl rfl) ?_
        intro b76 hb76
        obtain rfl : b76 = true := hb76
        refine x_val rfl rfl rfl (v_move rfl) ?_
        refine x_valg rfl rfl rfl rfl rfl (v_move rfl) ?_
        refine x_valg rfl rfl rfl rfl rfl (v_move rfl) ?_
        refine x_valg rfl rfl rfl rfl rfl (v_subi rfl rfl rfl (by first | omega | (dsimp only; omega))) ?_
        refine x_valg rfl rfl rfl rfl rfl (v_move rfl) ?_
        refine x_valg rfl rfl rfl rfl rfl (v_muli rfl rfl rfl (by first | omega | (dsimp only; omega))) ?_
        refine x_valg rfl rfl rfl rfl rfl (v_move rfl) ?_
        refine x_valg rfl rfl rfl rfl rfl (v_move rfl) ?_
        refine x_valg rfl rfl rfl rfl rfl (v_muli rfl rfl rfl (by first | omega | (dsimp only; omega))) ?_
        refine x_callbg rfl rfl rfl rfl rfl Tryz.func12 (by kernel_rfl) rfl (fun w1 hw1 => c_has (f := ⟨70000, D * P, E⟩) w1 (at_ownL (vs := fnC mF 70000) (.tail _ (.tail _ (.tail _ (.tail _ (.head _))))) rfl w1 hw1) (hw1.own_at (mF, _) (.tail _ (.tail _ (.tail _ (.head _))))) hF (fun i v hv => at_ownL (vs := fxC ⟨70000, D * P, E⟩) (.tail _ (.tail _ (.head _))) hv w1 hw1) ((3 - D) * P) (D * P)) ?_
        intro b86 hb86
        obtain rfl : b86 = true := hb86.trans (by dsimp only; rw [k2]; simp)
        refine x_bool rfl rfl rfl (v_and rfl rfl) ?_
        intro b87 hb87
        obtain rfl : b87 = true := hb87
        refine x_val rfl rfl rfl (v_assign rfl) ?_
        refine x_end ?_
        refine t_norm ?_
        refine w_ret ?_
        refine t_ret ?_
        exact ret1 rfl rfl (fun w' hm => ⟨rfl, hm.base (by simp)⟩)
      · simp only [hb71, decide_eq_true_eq, decide_eq_false_iff_not, Bool.and_eq_true, Bool.or_eq_true, Bool.and_eq_false_iff, Bool.or_eq_false_iff, Bool.not_eq_true', Bool.not_eq_false', ne_eq, Decidable.not_not] at hc71
        obtain ⟨k1, k2, k3⟩ : c = 0 ∧ E = 0 ∧ X = xZ P D := by rcases hcase with ⟨h, _⟩ | ⟨_, h⟩; (· exact absurd h (by omega)); exact h
        subst k2 k3
        refine w_skip ?_
        refine t_norm ?_
        refine w_seq ?_
        refine rg_text ?_
        refine x_val rfl rfl rfl (v_move rfl) ?_
        refine x_callv (v := Value.tuple #[.agg ((xZ P D)).cells.toArray, .bool true]) rfl rfl rfl Tryz.func11 (by kernel_rfl) rfl (fun w1 hw1 => c_Ord w1 (at_ownL (vs := orC pF (min (max 0 0) 1000000) mQ) (.head _) rfl w1 hw1) (hw1.own_at (mQ, _) (.tail _ (.head _))) hO68) ?_
        refine x_val rfl rfl rfl (v_move rfl) ?_
        refine x_val rfl rfl rfl (v_extract rfl rfl) ?_
        refine x_bool rfl rfl rfl (v_extract rfl rfl) ?_
        intro b92 hb92
        refine x_alloc rfl rfl rfl zr35 ?_
        intro p13
        refine x_store0 [] rfl rfl rfl rfl sz35 rfl rfl ?_
        refine x_val rfl rfl rfl (v_assign rfl) ?_
        refine x_end ?_
        refine t_norm ?_
        refine w_seq ?_
        refine rg_text ?_
        refine x_val (v := Value.agg #[.int .i64 1, .int .i64 5]) rfl rfl rfl (v_buildL (cs := [.int .i64 1, .int .i64 5]) (places := [(0, 1), (1, 1)]) Tryz.underlying33 zr33 (by kernel_rfl) rfl rfl) ?_
        refine x_val rfl rfl rfl (v_move rfl) ?_
        refine x_val rfl rfl rfl (v_move rfl) ?_
        refine x_val rfl rfl rfl (v_move rfl) ?_
        refine x_val (v := Value.agg (xZ P D).cells.toArray) rfl rfl rfl (v_buildL (cs := (xZ P D).cells) (places := [(0, 1), (1, 1), (2, 2), (4, 1), (5, 1), (6, 1), (7, 1), (8, 1)]) Tryz.underlying35 zr35 (by kernel_rfl) rfl rfl) ?_
        refine x_alloc rfl rfl rfl zr35 ?_
        intro p15
        refine x_store0 [] rfl rfl rfl rfl sz35 rfl rfl ?_
        refine x_end ?_
        refine t_norm ?_
        refine w_seq ?_
        refine rg_text ?_
        refine x_mem (fun _ h => h.perm ((List.Perm.cons _ ((List.Perm.swap _ _ _).trans (.cons _ ((List.Perm.swap _ _ _).trans (.cons _ ((List.Perm.swap _ _ _).trans (.cons _ ((List.Perm.swap _ _ _).trans (.cons _ ((List.Perm.swap _ _ _).trans (.cons _ (.refl _)))))))))))).trans ((List.Perm.swap _ _ _).trans (.cons _ ((List.Perm.swap _ _ _).trans (.cons _ ((List.Perm.swap _ _ _).trans (.cons _ ((List.Perm.swap _ _ _).trans (.cons _ ((List.Perm.swap _ _ _).trans (.cons _ (.refl _))))))))))))) ?_
        refine x_val rfl rfl rfl (v_move rfl) ?_
        refine x_turnf (τ := Array MapEntry × Nat) (v := Value.int .i64 50) (fun q => MapF Tryz.prog 3 q.1 (fO (some ((xZ P D), P)))) (fun q => (pO, Obj.cells (orC pF (min (max 0 0) 1000000) mQ).toArray 58) :: (mQ, Obj.map q.1 q.2) :: (pX, Obj.cells (fxC ⟨70000, D * P, 0⟩).toArray 88) :: (mF, Obj.map esF ckF) :: (pF, Obj.cells (fnC mF 70000).toArray 83) :: [(p15, Obj.cells (xZ P D).cells.toArray 35), (p13, Obj.cells (xZ P D).cells.toArray 35), (p3, Obj.cells [Value.int .u8 q0, .int .u8 q1].toArray 43)]) rfl rfl Tryz.func16 (by kernel_rfl) rfl (fun w1 hw1 => by
          have h := c_Cancel (L := [(p15, Obj.cells (xZ P D).cells.toArray 35), (p13, Obj.cells (xZ P D).cells.toArray 35), (p3, Obj.cells [Value.int .u8 q0, .int .u8 q1].toArray 43)]) hw1 hF hO68 hfo (by decide) (ordR_Z hP (by omega)) ⟨hP.1, by omega⟩
          rw [can_z] at h
          exact h) ?_
        rintro ⟨es99, ck99⟩ hO99
        dsimp only at hO99
        refine x_bool rfl rfl rfl (v_eql rfl rfl) ?_
        intro b100 hb100
        obtain rfl : b100 = true := hb100
        refine x_val rfl rfl rfl (v_move rfl) ?_
        refine x_valg rfl rfl rfl rfl rfl (v_move rfl) ?_
        refine x_turng (τ := Array MapEntry × Nat) (v := Value.int .i64 50) (fun q => MapF Tryz.prog 3 q.1 (fO (some ((xZ P D), P)))) (fun q => (pO, Obj.cells (orC pF (min (max 0 0) 1000000) mQ).toArray 58) :: (mQ, Obj.map q.1 q.2) :: (pX, Obj.cells (fxC ⟨70000, D * P, 0⟩).toArray 88) :: (mF, Obj.map esF ckF) :: (pF, Obj.cells (fnC mF 70000).toArray 83) :: [(p15, Obj.cells (xZ P D).cells.toArray 35), (p13, Obj.cells (xZ P D).cells.toArray 35), (p3, Obj.cells [Value.int .u8 q0, .int .u8 q1].toArray 43)]) rfl rfl rfl rfl Tryz.func13 (by kernel_rfl) rfl (fun w1 hw1 => by
          have h := c_Receive (L := [(p15, Obj.cells (xZ P D).cells.toArray 35), (p13, Obj.cells (xZ P D).cells.toArray 35), (p3, Obj.cells [Value.int .u8 q0, .int .u8 q1].toArray 43)]) hw1 hF hO99 hfo (by decide) (ordR_Z hP (by omega)) ⟨hP.1, by omega⟩ (1) ⟨by decide, by decide⟩
          rw [rec_z] at h
          exact h) ?_
        rintro ⟨es103, ck103⟩ hO103
        dsimp only at hO103
        refine x_boolg rfl rfl rfl rfl rfl (v_eql rfl rfl) ?_
        intro b104 hb104
        obtain rfl : b104 = true := hb104
        refine x_bool rfl rfl rfl (v_and rfl rfl) ?_
        intro b105 hb105
        obtain rfl : b105 = true := hb105
        refine x_val rfl rfl rfl (v_move rfl) ?_
        refine x_valg rfl rfl rfl rfl rfl (v_move rfl) ?_
        refine x_valg rfl rfl rfl rfl rfl (v_move rfl) ?_
        refine x_callvg rfl rfl rfl rfl rfl Tryz.func10 (by kernel_rfl) rfl (fun w1 hw1 => c_ans 1 P w1 (by decide) (by omega)) ?_
        obtain ⟨_, af1, af2, af3, af4⟩ := ans_facts (n := 1) (r := P) (by decide) (by omega)
        refine x_turng (τ := Array MapEntry × Nat) (v := Value.int .i64 50) (fun q => MapF Tryz.prog 3 q.1 (fO (some ((xZ P D), P)))) (fun q => (pO, Obj.cells (orC pF (min (max 0 0) 1000000) mQ).toArray 58) :: (mQ, Obj.map q.1 q.2) :: (pX, Obj.cells (fxC ⟨70000, D * P, 0⟩).toArray 88) :: (mF, Obj.map esF ckF) :: (pF, Obj.cells (fnC mF 70000).toArray 83) :: [(p15, Obj.cells (xZ P D).cells.toArray 35), (p13, Obj.cells (xZ P D).cells.toArray 35), (p3, Obj.cells [Value.int .u8 q0, .int .u8 q1].toArray 43)]) rfl rfl rfl rfl Tryz.func9 (by kernel_rfl) rfl (fun w1 hw1 => by
          have h := c_Answer (L := [(p15, Obj.cells (xZ P D).cells.toArray 35), (p13, Obj.cells (xZ P D).cells.toArray 35), (p3, Obj.cells [Value.int .u8 q0, .int .u8 q1].toArray 43)]) hw1 hF hO103 hfo (by decide) (ordR_Z hP (by omega)) ⟨hP.1, by omega⟩ (by simp) hL (ansT 1 P) af1 af2 af3 (yO 1 P) af4 rfl ⟨by show (0 : Int) ≤ P; omega, by show P ≤ (999999999 : Int); omega⟩ ⟨by show (0 : Int) ≤ 1; omega, by show 1 ≤ (9999 : Int); omega⟩
          rw [ans_z] at h
          exact h) ?_
        rintro ⟨es110, ck110⟩ hO110
        dsimp only at hO110
        refine x_boolg rfl rfl rfl rfl rfl (v_eql rfl rfl) ?_
        intro b111 hb111
        obtain rfl : b111 = true := hb111
        refine x_bool rfl rfl rfl (v_and rfl rfl) ?_
        intro b112 hb112
        obtain rfl : b112 = true := hb112
        refine x_val rfl rfl rfl (v_move rfl) ?_
        refine x_valg rfl rfl rfl rfl rfl (v_move rfl) ?_
        refine x_valg rfl rfl rfl rfl rfl (v_move rfl) ?_
        refine x_callvg rfl rfl rfl rfl rfl Tryz.func15 (by kernel_rfl) rfl (fun w1 hw1 => c_bil 1 P w1 (by decide) (by omega)) ?_
        obtain ⟨_, bf1, bf2, bf3, bf4⟩ := bil_facts (n := 1) (r := P) (by decide) (by omega)
        refine x_turng (τ := Nat × Array MapEntry × Nat) (v := Value.int .i64 50) (fun q => MapF Tryz.prog 3 q.2.1 (fO (some ((xZ P D), P)))) (fun q => (pO, Obj.cells (orC pF (min (max 0 0) 1000000) q.1).toArray 58) :: (q.1, Obj.map q.2.1 q.2.2) :: (pX, Obj.cells (fxC ⟨70000, D * P, 0⟩).toArray 88) :: (mF, Obj.map esF ckF) :: (pF, Obj.cells (fnC mF 70000).toArray 83) :: [(p15, Obj.cells (xZ P D).cells.toArray 35), (p13, Obj.cells (xZ P D).cells.toArray 35), (p3, Obj.cells [Value.int .u8 q0, .int .u8 q1].toArray 43)]) rfl rfl rfl rfl Tryz.func14 (by kernel_rfl) rfl (fun w1 hw1 => by
          have h := c_Pay (L := [(p15, Obj.cells (xZ P D).cells.toArray 35), (p13, Obj.cells (xZ P D).cells.toArray 35), (p3, Obj.cells [Value.int .u8 q0, .int .u8 q1].toArray 43)]) hw1 hF hO110 hfo (by decide) (ordR_Z hP (by omega)) ⟨hP.1, by omega⟩ (by simp) hL (bilT 1 P) bf1 bf2 bf3 (yB 1 P) bf4 rfl ⟨by show (0 : Int) ≤ P; omega, by show P ≤ (999999999 : Int); omega⟩ ⟨by show (1 : Int) ≤ 1; omega, by show 1 ≤ (9999 : Int); omega⟩
          rw [pay_z] at h
          exact h) ?_
        rintro ⟨mO117, es117, ck117⟩ hO117
        dsimp only at hO117
        refine x_boolg rfl rfl rfl rfl rfl (v_eql rfl rfl) ?_
        intro b118 hb118
        obtain rfl : b118 = true := hb118
        refine x_bool rfl rfl rfl (v_and rfl rfl) ?_
        intro b119 hb119
        obtain rfl : b119 = true := hb119
        refine x_val rfl rfl rfl (v_assign rfl) ?_
        refine x_end ?_
        refine t_norm ?_
        refine w_seq ?_
        refine rg_text ?_
        refine x_val rfl rfl rfl (v_move rfl) ?_
        refine x_val (v := Value.agg yP.cells.toArray) rfl rfl rfl (v_buildL (cs := yP.cells) (places := [(0, 1), (1, 1), (2, 2), (4, 1), (5, 1), (6, 1), (7, 1), (8, 1)]) Tryz.underlying35 zr35 (by kernel_rfl) rfl rfl) ?_
        refine x_callv (v := Value.int .i64 22) rfl rfl rfl Tryz.func17 (by kernel_rfl) rfl (fun w1 hw1 => c_Place1 w1 (at_ownL (vs := orC pF (min (max 0 0) 1000000) mO117) (.head _) rfl w1 hw1) (hw1.own_at (mO117, _) (.tail _ (.head _))) hO117 yP yP_A yP_w rfl (hL.later (hw1.base (by simp)))) ?_
        refine x_bool rfl rfl rfl (v_eql rfl rfl) ?_
        intro b123 hb123
        obtain rfl : b123 = true := hb123
        refine x_val rfl rfl rfl (v_assign rfl) ?_
        refine x_end ?_
        refine t_norm ?_
        refine w_seq ?_
        refine rg_text ?_
        refine x_val rfl rfl rfl (v_move rfl) ?_
        refine x_val rfl rfl rfl (v_move rfl) ?_
        refine x_valg rfl rfl rfl rfl rfl (v_move rfl) ?_
        refine x_boolg rfl rfl rfl rfl rfl (v_eql rfl rfl) ?_
        intro b127 hb127
        obtain rfl : b127 = true := hb127.trans (decide_eq_true k1)
        refine x_bool rfl rfl rfl (v_and rfl rfl) ?_
        intro b128 hb128
        obtain rfl : b128 = true := hb128
        refine x_val rfl rfl rfl (v_move rfl) ?_
        refine x_valg rfl rfl rfl rfl rfl (v_load_blk (e := 35) (fz := (0, 0)) (cs := (xZ P D).cells.toArray) Tryz.underlying35 rfl rfl (.tail _ (.tail _ (.tail _ (.tail _ (.tail _ (.tail _ (.head _))))))) sz35) ?_
        refine x_valg rfl rfl rfl rfl rfl (v_load_blk (e := 35) (fz := (0, 0)) (cs := (xZ P D).cells.toArray) Tryz.underlying35 rfl rfl (.tail _ (.tail _ (.tail _ (.tail _ (.tail _ (.head _)))))) sz35) ?_
        refine x_boolg rfl rfl rfl rfl rfl (v_eqA (by kernel_rfl) rfl rfl (fun w1 => eqOrdB w1 (xZ P D) (xZ P D))) ?_
        intro b132 hb132
        obtain rfl : b132 = true := hb132.trans (by simp)
        refine x_bool rfl rfl rfl (v_and rfl rfl) ?_
        intro b133 hb133
        obtain rfl : b133 = true := hb133
        refine x_val rfl rfl rfl (v_move rfl) ?_
        refine x_valg rfl rfl rfl rfl rfl (v_move rfl) ?_
        refine x_bool rfl rfl rfl (v_and rfl rfl) ?_
        intro b136 hb136
        obtain rfl : b136 = true := hb136
        refine x_val rfl rfl rfl (v_move rfl) ?_
        refine x_valg rfl rfl rfl rfl rfl (v_move rfl) ?_
        refine x_bool rfl rfl rfl (v_and rfl rfl) ?_
        intro b139 hb139
        obtain rfl : b139 = true := hb139
        refine x_val rfl rfl rfl (v_move rfl) ?_
        refine x_valg rfl rfl rfl rfl rfl (v_move rfl) ?_
        refine x_valg rfl rfl rfl rfl rfl (v_move rfl) ?_
        refine x_valg rfl rfl rfl rfl rfl (v_move rfl) ?_
        refine x_valg rfl rfl rfl rfl rfl (v_muli rfl rfl rfl (by first | omega | (dsimp only; omega))) ?_
        refine x_callbg rfl rfl rfl rfl rfl Tryz.func12 (by kernel_rfl) rfl (fun w1 hw1 => c_has (f := ⟨70000, D * P, 0⟩) w1 (at_ownL (vs := fnC mF 70000) (.tail _ (.tail _ (.tail _ (.tail _ (.head _))))) rfl w1 hw1) (hw1.own_at (mF, _) (.tail _ (.tail _ (.tail _ (.head _))))) hF (fun i v hv => at_ownL (vs := fxC ⟨70000, D * P, 0⟩) (.tail _ (.tail _ (.head _))) hv w1 hw1) (0) (D * P)) ?_
        intro b145 hb145
        obtain rfl : b145 = true := hb145.trans (by simp)
        refine x_bool rfl rfl rfl (v_and rfl rfl) ?_
        intro b146 hb146
        obtain rfl : b146 = true := hb146
        refine x_val rfl rfl rfl (v_move rfl) ?_
        refine x_valg rfl rfl rfl rfl rfl (v_move rfl) ?_
        refine x_callvg (v := Value.int .i64 32) rfl rfl rfl rfl rfl Tryz.func16 (by kernel_rfl) rfl (fun w1 hw1 => c_Cancel8 w1 (at_ownL (vs := orC pF (min (max 0 0) 1000000) mO117) (.head _) rfl w1 hw1) (hw1.own_at (mO117, _) (.tail _ (.head _))) hO117) ?_
        refine x_boolg rfl rfl rfl rfl rfl (v_eql rfl rfl) ?_
        intro b150 hb150
        obtain rfl : b150 = true := hb150
        refine x_bool rfl rfl rfl (v_and rfl rfl) ?_
        intro b151 hb151
        obtain rfl : b151 = true := hb151
        refine x_val rfl rfl rfl (v_assign rfl) ?_
        refine x_end ?_
        refine t_norm ?_
        refine w_ret ?_
        exact ret1 rfl rfl (fun w' hm => ⟨rfl, hm.base (by simp)⟩)

end Go.Proofs.YtdampedpgbnihaaGreatDoor

namespace Go.Proofs.YtdampedpgbnihaaGreatDoor
open Go.RowKit Go.PK
set_option linter.unusedVariables false
set_option linter.unusedSimpArgs false

def laidL : List (String × DataW Unit) := [("math/bits.deBruijn32tab", Rows.laid_math_bits_deBruijn32tab), ("math/bits.deBruijn64tab", Rows.laid_math_bits_deBruijn64tab), ("internal/strconv.uint64pow10", Rows.laid_internal_strconv_uint64pow10), ("unicode/utf8.acceptRanges", Rows.laid_unicode_utf8_acceptRanges), ("strconv.ErrRange", Rows.laid_strconv_ErrRange), ("strconv.ErrSyntax", Rows.laid_strconv_ErrSyntax), ("unicode/utf8.first", Rows.laid_unicode_utf8_first)]
theorem noHandle {W : World} (h : laidMetH Tryz.prog laidL W) : laidMet Tryz.prog laidL W := by
  have h1 := (laidMetH_iff.1 h).1
  rwa [show (laidL.filter fun x => x.2.handleName?.isNone) = laidL from by kernel_rfl] at h1
theorem laid_tab {W : World} (h : laidMet Tryz.prog laidL W) : Lib.TabIs Tryz.prog W "internal/strconv.uint64pow10" .u64 Lib.pow10Tab := by
  have h1 := h.filter fun x => x.1 == "internal/strconv.uint64pow10"
  have e : (laidL.filter fun x => x.1 == "internal/strconv.uint64pow10") = [("internal/strconv.uint64pow10", Lib.tabData .u64 Lib.pow10Tab)] := by kernel_rfl
  rw [e] at h1
  exact Lib.tabIs_of_head (g := 3) (t := 196) (e := 169) (n := 20) (by kernel_rfl) (by kernel_rfl) (by kernel_rfl) (by kernel_rfl) (by kernel_rfl) (by kernel_rfl) h1
theorem star : "*" ++ "errors.errorString" = "*errors.errorString" := by decide
theorem row104 (u : TypeId) (h : Tryz.prog.typeName? 3 u = some "*errors.errorString") : u = 187 :=
  typeName_ptr_named (nm := "errors.errorString") (by rw [star]; kernel_rfl) (by kernel_rfl) (by decide) u (by rw [star]; exact h)
theorem laid_syn {W : World} (h : laidMet Tryz.prog laidL W) : ∃ tp p, W.var? Tryz.prog "strconv.ErrSyntax" = some #[.iface tp p] := by
  have h1 := h.filter fun x => x.1 == "strconv.ErrSyntax"
  have e : (laidL.filter fun x => x.1 == "strconv.ErrSyntax") = [("strconv.ErrSyntax", .iface "*errors.errorString" (.ptr (.agg [.lit (.string [105, 110, 118, 97, 108, 105, 100, 32, 115, 121, 110, 116, 97, 120])])))] := by kernel_rfl
  rw [e] at h1
  obtain ⟨a0, s0, hv0, _⟩ := laid_sentinel (g := 0) (ti := 127) (tp := 187) (te := 189) (ts := 9) h1 (by kernel_rfl) (by kernel_rfl) Tryz.underlying127 row104 Tryz.underlying187 Tryz.underlying189 rfl rfl Tryz.underlying9 (by kernel_rfl) (by kernel_rfl)
  exact ⟨_, _, hv0⟩
theorem laid_rng {W : World} (h : laidMet Tryz.prog laidL W) : ∃ tp p, W.var? Tryz.prog "strconv.ErrRange" = some #[.iface tp p] := by
  have h1 := h.filter fun x => x.1 == "strconv.ErrRange"
  have e : (laidL.filter fun x => x.1 == "strconv.ErrRange") = [("strconv.ErrRange", .iface "*errors.errorString" (.ptr (.agg [.lit (.string [118, 97, 108, 117, 101, 32, 111, 117, 116, 32, 111, 102, 32, 114, 97, 110, 103, 101])])))] := by kernel_rfl
  rw [e] at h1
  obtain ⟨a0, s0, hv0, _⟩ := laid_sentinel (g := 1) (ti := 127) (tp := 187) (te := 189) (ts := 9) h1 (by kernel_rfl) (by kernel_rfl) Tryz.underlying127 row104 Tryz.underlying187 Tryz.underlying189 rfl rfl Tryz.underlying9 (by kernel_rfl) (by kernel_rfl)
  exact ⟨_, _, hv0⟩

theorem ld_of {W : World} (h : laidMetH Tryz.prog laidL W) (hS : W.ShapedOpen Tryz.prog) : LD W := ⟨laid_tab (noHandle h), Tryz.laysM146.s1_3 W hS, laid_syn (noHandle h), laid_rng (noHandle h)⟩
theorem laid_met (os : Os) (args : Array Value) : laidMet Tryz.prog laidL ((World.laidAll Tryz.prog os laidL).forCall (fun _ _ => 0) ⟨#[], args, []⟩).memory :=
  laidMet_laidAll args (by kernel_rfl) (by kernel_rfl)
theorem bulk_one {H : Type} (d : DataW H) : 1 ≤ Rows.uptoBulk d := by
  cases d with
  | lit l => cases l <;> simp [Rows.uptoBulk]
  | nil => simp [Rows.uptoBulk]
  | ptr d => simp [Rows.uptoBulk]
  | slice elems spare => simp [Rows.uptoBulk]
  | agg parts => simp [Rows.uptoBulk]
  | iface t d => simp [Rows.uptoBulk]
  | map entries => simp [Rows.uptoBulk]
  | held h => simp [Rows.uptoBulk]
def meas (H : Type) : Meas H := ⟨Rows.uptoBulk, Rows.uptoBulkAll, fun _ => by simp [Rows.uptoBulk], fun _ _ => by simp [Rows.uptoBulk], fun _ => by simp [Rows.uptoBulk], fun _ _ => by simp [Rows.uptoBulkAll], bulk_one⟩

end Go.Proofs.YtdampedpgbnihaaGreatDoor
