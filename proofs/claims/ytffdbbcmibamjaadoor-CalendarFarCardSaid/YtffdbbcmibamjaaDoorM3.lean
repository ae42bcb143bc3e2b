/- Of the proofs of YtffdbbcmibamjaaDoor: Facts Wa Wb Wc Wd We Wf Wg Wh Wi Wj, put together. -/
import Derived.Test.YtffdbbcmibamjaaDoorRows
import Derived.Test.YtffdbbcmibamjaaDoorM1
import Derived.Test.YtffdbbcmibamjaaDoorM2
namespace Go.Proofs.YtffdbbcmibamjaaDoor
theorem sz2 : (Tryd.prog.info? 2).map (·.size) = some 1 := by kernel_rfl
theorem zr2 : (Tryd.prog.info? 2).bind (·.zero) = some (.int .i64 0) := by kernel_rfl
theorem sz3 : (Tryd.prog.info? 3).map (·.size) = some 1 := by kernel_rfl
theorem zr3 : (Tryd.prog.info? 3).bind (·.zero) = some (.int .i64 0) := by kernel_rfl
theorem sz4 : (Tryd.prog.info? 4).map (·.size) = some 1 := by kernel_rfl
theorem zr4 : (Tryd.prog.info? 4).bind (·.zero) = some (.bool false) := by kernel_rfl
theorem sz5 : (Tryd.prog.info? 5).map (·.size) = some 1 := by kernel_rfl
theorem zr5 : (Tryd.prog.info? 5).bind (·.zero) = some (.int .u8 0) := by kernel_rfl
theorem sz9 : (Tryd.prog.info? 9).map (·.size) = some 1 := by kernel_rfl
theorem zr9 : (Tryd.prog.info? 9).bind (·.zero) = some (.string ⟨#[]⟩) := by kernel_rfl
theorem sz26 : (Tryd.prog.info? 26).map (·.size) = some 1 := by kernel_rfl
theorem zr26 : (Tryd.prog.info? 26).bind (·.zero) = some (.slice none 0 0) := by kernel_rfl
theorem sz31 : (Tryd.prog.info? 31).map (·.size) = some 1 := by kernel_rfl
theorem zr31 : (Tryd.prog.info? 31).bind (·.zero) = some (.int .i64 0) := by kernel_rfl
theorem sz35 : (Tryd.prog.info? 35).map (·.size) = some 1 := by kernel_rfl
theorem zr35 : (Tryd.prog.info? 35).bind (·.zero) = some (.slice none 0 0) := by kernel_rfl
theorem sz36 : (Tryd.prog.info? 36).map (·.size) = some 7 := by kernel_rfl
theorem zr36 : (Tryd.prog.info? 36).bind (·.zero) = some (.agg #[.bool false, .bool false, .bool false, .bool false, .bool false, .bool false, .bool false]) := by kernel_rfl
theorem sz38 : (Tryd.prog.info? 38).map (·.size) = some 8 := by kernel_rfl
theorem zr38 : (Tryd.prog.info? 38).bind (·.zero) = some (.agg #[.bool false, .bool false, .bool false, .bool false, .bool false, .bool false, .bool false, .slice none 0 0]) := by kernel_rfl
theorem sz44 : (Tryd.prog.info? 44).map (·.size) = some 1 := by kernel_rfl
theorem zr44 : (Tryd.prog.info? 44).bind (·.zero) = some (.int .u16 0) := by kernel_rfl
theorem sz45 : (Tryd.prog.info? 45).map (·.size) = some 3 := by kernel_rfl
theorem zr45 : (Tryd.prog.info? 45).bind (·.zero) = some (.agg #[.int .u16 0, .int .u16 0, .int .u16 0]) := by kernel_rfl
theorem sz46 : (Tryd.prog.info? 46).map (·.size) = some 2 := by kernel_rfl
theorem zr46 : (Tryd.prog.info? 46).bind (·.zero) = some (.agg #[.int .u8 0, .int .u8 0]) := by kernel_rfl
theorem sz47 : (Tryd.prog.info? 47).map (·.size) = some 3 := by kernel_rfl
theorem zr47 : (Tryd.prog.info? 47).bind (·.zero) = some (.agg #[.int .i64 0, .int .i64 0, .int .i64 0]) := by kernel_rfl
theorem sz54 : (Tryd.prog.info? 54).map (·.size) = some 1 := by kernel_rfl
theorem zr54 : (Tryd.prog.info? 54).bind (·.zero) = some (.nilIface) := by kernel_rfl
theorem sz64 : (Tryd.prog.info? 64).map (·.size) = some 1 := by kernel_rfl
theorem zr64 : (Tryd.prog.info? 64).bind (·.zero) = some (.int .u64 0) := by kernel_rfl
theorem sz68 : (Tryd.prog.info? 68).map (·.size) = some 1 := by kernel_rfl
theorem zr68 : (Tryd.prog.info? 68).bind (·.zero) = some (.pointer none) := by kernel_rfl
theorem sz73 : (Tryd.prog.info? 73).map (·.size) = some 1 := by kernel_rfl
theorem zr73 : (Tryd.prog.info? 73).bind (·.zero) = some (.int .i64 0) := by kernel_rfl
theorem sz81 : (Tryd.prog.info? 81).map (·.size) = some 1 := by kernel_rfl
theorem zr81 : (Tryd.prog.info? 81).bind (·.zero) = some (.int .u32 0) := by kernel_rfl
theorem sz83 : (Tryd.prog.info? 83).map (·.size) = some 1 := by kernel_rfl
theorem zr83 : (Tryd.prog.info? 83).bind (·.zero) = some (.int .u64 0) := by kernel_rfl
theorem sz89 : (Tryd.prog.info? 89).map (·.size) = some 3 := by kernel_rfl
theorem zr89 : (Tryd.prog.info? 89).bind (·.zero) = some (.agg #[.string ⟨#[]⟩, .string ⟨#[]⟩, .nilIface]) := by kernel_rfl
theorem sz91 : (Tryd.prog.info? 91).map (·.size) = some 1 := by kernel_rfl
theorem zr91 : (Tryd.prog.info? 91).bind (·.zero) = some (.int .u64 0) := by kernel_rfl
theorem sz95 : (Tryd.prog.info? 95).map (·.size) = some 1 := by kernel_rfl
theorem zr95 : (Tryd.prog.info? 95).bind (·.zero) = some (.pointer none) := by kernel_rfl
theorem sz97 : (Tryd.prog.info? 97).map (·.size) = some 24 := by kernel_rfl
theorem zr97 : (Tryd.prog.info? 97).bind (·.zero) = some (.agg (List.replicate 24 (.int .u8 0)).toArray) := by kernel_rfl
theorem sz106 : (Tryd.prog.info? 106).map (·.size) = some 1 := by kernel_rfl
theorem zr106 : (Tryd.prog.info? 106).bind (·.zero) = some (.agg #[.string ⟨#[]⟩]) := by kernel_rfl
theorem sz107 : (Tryd.prog.info? 107).map (·.size) = some 1 := by kernel_rfl
theorem zr107 : (Tryd.prog.info? 107).bind (·.zero) = some (.pointer none) := by kernel_rfl
theorem sz111 : (Tryd.prog.info? 111).map (·.size) = some 20 := by kernel_rfl
theorem zr111 : (Tryd.prog.info? 111).bind (·.zero) = some (.agg #[.int .u64 0, .int .u64 0, .int .u64 0, .int .u64 0, .int .u64 0, .int .u64 0, .int .u64 0, .int .u64 0, .int .u64 0, .int .u64 0, .int .u64 0, .int .u64 0, .int .u64 0, .int .u64 0, .int .u64 0, .int .u64 0, .int .u64 0, .int .u64 0, .int .u64 0, .int .u64 0]) := by kernel_rfl
theorem sz112 : (Tryd.prog.info? 112).map (·.size) = some 65 := by kernel_rfl
theorem zr112 : (Tryd.prog.info? 112).bind (·.zero) = some (.agg (List.replicate 65 (.int .u8 0)).toArray) := by kernel_rfl
theorem sz113 : (Tryd.prog.info? 113).map (·.size) = some 32 := by kernel_rfl
theorem zr113 : (Tryd.prog.info? 113).bind (·.zero) = some (.agg (List.replicate 32 (.int .u8 0)).toArray) := by kernel_rfl
theorem sz114 : (Tryd.prog.info? 114).map (·.size) = some 64 := by kernel_rfl
theorem zr114 : (Tryd.prog.info? 114).bind (·.zero) = some (.agg (List.replicate 64 (.int .u8 0)).toArray) := by kernel_rfl
end Go.Proofs.YtffdbbcmibamjaaDoor

namespace Go.Proofs.YtffdbbcmibamjaaDoor
open Go.RowKit Go.PK
set_option linter.unusedVariables false
set_option linter.unusedSimpArgs false

theorem tmod0 {a m : Int} : (a.tmod m = 0) = (a % m = 0) := by
  rw [eq_iff_iff, ← Int.dvd_iff_tmod_eq_zero, ← Int.dvd_iff_emod_eq_zero]
theorem leap_a (y : Int) : (decide (y.tmod 4 = 0) && (decide (y.tmod 100 ≠ 0) || decide (y.tmod 400 = 0))) = leapP y := by
  rw [Bool.eq_iff_iff]; simp [leapP, tmod0]
theorem leap_b (y : Int) : (decide (y.tmod 4 = 0) && decide (y.tmod 100 ≠ 0) || decide (y.tmod 400 = 0)) = leapP y := by
  rw [Bool.eq_iff_iff]; simp [leapP, tmod0]; omega
theorem tmod7 (n : Int) : -6 ≤ n.tmod 7 ∧ n.tmod 7 ≤ 6 := by
  rcases Int.le_total 0 n with h | h
  · rw [Int.tmod_eq_emod_of_nonneg h]; omega
  · have e : n.tmod 7 = -((-n) % 7) := by
      have : n = -(-n) := by omega
      rw [this, Int.neg_tmod, Int.tmod_eq_emod_of_nonneg (by omega)]; simp
    rw [e]; omega
theorem ok_dec (n : Int) : (decide (-719162 ≤ n) && decide (n ≤ 2932896)) = decide (okDay n) := by
  rw [Bool.eq_iff_iff, Bool.and_eq_true, decide_eq_true_iff, decide_eq_true_iff, decide_eq_true_iff]; exact Iff.rfl
set_option maxRecDepth 100000 in
theorem c48 (y : Int) (w : World) (hy : in64 y) :
    Calls Tryd.prog 48 #[.int .i64 y] w fun e w' => e = .returned (.bool (leapP y)) ∧ Later w w' := by
  refine enter (vs := [.int .i64 y]) Tryd.func48 rfl Tryd.ntmps48 rfl ?_
  refine w_seq ?_
  refine rg_text ?_
  refine x_val rfl rfl rfl (v_assign rfl) ?_
  refine x_end ?_
  refine t_norm ?_
  refine w_seq ?_
  refine rg_text ?_
  refine x_val rfl rfl rfl (v_move rfl) ?_
  refine x_val rfl rfl rfl (v_rem rfl rfl (by first | omega | (dsimp only; omega))) ?_
  refine x_bool rfl rfl rfl (v_eql rfl rfl) ?_
  intro b5 hb5
  refine x_val rfl rfl rfl (v_move rfl) ?_
  refine x_if [] rfl rfl rfl rfl rfl (fun hg => by obtain ⟨hg0, _⟩ := hg; subst hg0; (try simp only [List.cons_append, List.nil_append, gvl_nil, gvl_t, gvl_f]); exact v_move rfl) ?_
  refine x_if [] rfl rfl rfl rfl rfl (fun hg => by obtain ⟨hg0, _⟩ := hg; subst hg0; (try simp only [List.cons_append, List.nil_append, gvl_nil, gvl_t, gvl_f]); exact v_rem rfl rfl (by first | omega | (dsimp only; omega))) ?_
  refine x_ifb [] rfl rfl rfl rfl rfl (fun hg => by obtain ⟨hg0, _⟩ := hg; subst hg0; (try simp only [List.cons_append, List.nil_append, gvl_nil, gvl_t, gvl_f]); exact v_neq rfl rfl) ?_
  intro b9 hb9
  refine x_if [] rfl rfl rfl rfl rfl (fun hg => by obtain ⟨hg0, _⟩ := hg; subst hg0; (try simp only [List.cons_append, List.nil_append, gvl_nil, gvl_t, gvl_f]); exact v_move rfl) ?_
  refine x_if [(b5, true)] rfl rfl rfl rfl rfl (fun hg => by obtain ⟨hg0, hg1, _⟩ := hg; subst hg0; subst hg1; (try simp only [List.cons_append, List.nil_append, gvl_nil, gvl_t, gvl_f]); exact v_move rfl) ?_
  refine x_if [(b5, true)] rfl rfl rfl rfl rfl (fun hg => by obtain ⟨hg0, hg1, _⟩ := hg; subst hg0; subst hg1; (try simp only [List.cons_append, List.nil_append, gvl_nil, gvl_t, gvl_f]); exact v_rem rfl rfl (by first | omega | (dsimp only; omega))) ?_
  refine x_ifb [(b5, true)] rfl rfl rfl rfl rfl (fun hg => by obtain ⟨hg0, hg1, _⟩ := hg; subst hg0; subst hg1; (try simp only [List.cons_append, List.nil_append, gvl_nil, gvl_t, gvl_f]); exact v_eql rfl rfl) ?_
  intro b13 hb13
  refine x_ifb [] rfl rfl rfl rfl rfl (fun hg => by obtain ⟨hg0, _⟩ := hg; subst hg0; (try simp only [List.cons_append, List.nil_append, gvl_nil, gvl_t, gvl_f]); exact v_or rfl rfl) ?_
  intro b14 hb14
  refine x_bool rfl rfl rfl (v_and rfl rfl) ?_
  intro b15 hb15
  refine x_val rfl rfl rfl (v_assign rfl) ?_
  refine x_end ?_
  refine t_norm ?_
  refine w_ret ?_
  refine ret1 rfl rfl (fun w' hm => ⟨?_, hm.base (by simp)⟩)
  rw [hb15, hb14, hb13, hb9, hb5, leap_a]
set_option maxRecDepth 100000 in
theorem c49 (y : Int) (w : World) (hy : in64 y) :
    Calls Tryd.prog 49 #[.int .i64 y] w fun e w' => e = .returned (.bool (leapP y)) ∧ Later w w' := by
  refine enter (vs := [.int .i64 y]) Tryd.func49 rfl Tryd.ntmps49 rfl ?_
  refine w_seq ?_
  refine rg_text ?_
  refine x_val rfl rfl rfl (v_assign rfl) ?_
  refine x_end ?_
  refine t_norm ?_
  refine w_seq ?_
  refine rg_text ?_
  refine x_val rfl rfl rfl (v_move rfl) ?_
  refine x_val rfl rfl rfl (v_rem rfl rfl (by first | omega | (dsimp only; omega))) ?_
  refine x_bool rfl rfl rfl (v_eql rfl rfl) ?_
  intro b5 hb5
  refine x_val rfl rfl rfl (v_move rfl) ?_
  refine x_if [] rfl rfl rfl rfl rfl (fun hg => by obtain ⟨hg0, _⟩ := hg; subst hg0; (try simp only [List.cons_append, List.nil_append, gvl_nil, gvl_t, gvl_f]); exact v_move rfl) ?_
  refine x_if [] rfl rfl rfl rfl rfl (fun hg => by obtain ⟨hg0, _⟩ := hg; subst hg0; (try simp only [List.cons_append, List.nil_append, gvl_nil, gvl_t, gvl_f]); exact v_rem rfl rfl (by first | omega | (dsimp only; omega))) ?_
  refine x_ifb [] rfl rfl rfl rfl rfl (fun hg => by obtain ⟨hg0, _⟩ := hg; subst hg0; (try simp only [List.cons_append, List.nil_append, gvl_nil, gvl_t, gvl_f]); exact v_neq rfl rfl) ?_
  intro b9 hb9
  refine x_bool rfl rfl rfl (v_and rfl rfl) ?_
  intro b10 hb10
  refine x_val rfl rfl rfl (v_move rfl) ?_
  refine x_if [] rfl rfl rfl rfl rfl (fun hg => by obtain ⟨hg0, _⟩ := hg; subst hg0; (try simp only [List.cons_append, List.nil_append, gvl_nil, gvl_t, gvl_f]); exact v_move rfl) ?_
  refine x_if [] rfl rfl rfl rfl rfl (fun hg => by obtain ⟨hg0, _⟩ := hg; subst hg0; (try simp only [List.cons_append, List.nil_append, gvl_nil, gvl_t, gvl_f]); exact v_rem rfl rfl (by first | omega | (dsimp only; omega))) ?_
  refine x_ifb [] rfl rfl rfl rfl rfl (fun hg => by obtain ⟨hg0, _⟩ := hg; subst hg0; (try simp only [List.cons_append, List.nil_append, gvl_nil, gvl_t, gvl_f]); exact v_eql rfl rfl) ?_
  intro b14 hb14
  refine x_bool rfl rfl rfl (v_or rfl rfl) ?_
  intro b15 hb15
  refine x_val rfl rfl rfl (v_assign rfl) ?_
  refine x_end ?_
  refine t_norm ?_
  refine w_ret ?_
  refine ret1 rfl rfl (fun w' hm => ⟨?_, hm.base (by simp)⟩)
  rw [hb15, hb14, hb10, hb9, hb5, leap_b]
set_option maxRecDepth 100000 in
theorem c33 (y m : Int) (w : World) (hy : in64 y) :
    Calls Tryd.prog 33 #[.int .i64 y, .int .i64 m] w fun e w' => e = .returned (.int .i64 (mlen y m)) ∧ Later w w' := by
  refine enter (vs := [.int .i64 y, .int .i64 m]) Tryd.func33 rfl Tryd.ntmps33 rfl ?_
  refine w_seq ?_
  refine rg_text ?_
  refine x_val rfl rfl rfl (v_assign rfl) ?_
  refine x_end ?_
  refine t_norm ?_
  refine w_seq ?_
  refine w_seq ?_
  refine rg_text ?_
  refine x_val rfl rfl rfl (v_move rfl) ?_
  refine x_end ?_
  refine t_norm ?_
  refine w_block ?_
  refine w_seq ?_
  refine w_seq ?_
  refine rg_text ?_
  refine x_bool rfl rfl rfl (v_eql rfl rfl) ?_
  intro b7 hb7
  refine x_val rfl rfl rfl (v_assign rfl) ?_
  refine x_end ?_
  refine t_norm ?_
  refine w_cond rfl (fun hc6 => ?_) (fun hc6 => ?_)
  · simp only [hb7, decide_eq_true_eq, decide_eq_false_iff_not, Bool.and_eq_true, Bool.or_eq_true, Bool.and_eq_false_iff, Bool.or_eq_false_iff, Bool.not_eq_true', Bool.not_eq_false', ne_eq, Decidable.not_not] at hc6
    refine w_skip ?_
    refine t_norm ?_
    refine w_cond rfl (fun hc6 => ?_) (fun hc6 => ?_)
    · simp only [hb7, decide_eq_true_eq, decide_eq_false_iff_not, Bool.and_eq_true, Bool.or_eq_true, Bool.and_eq_false_iff, Bool.or_eq_false_iff, Bool.not_eq_true', Bool.not_eq_false', ne_eq, Decidable.not_not] at hc6
      refine w_seq ?_
      refine rg_text ?_
      refine x_val rfl rfl rfl (v_assign rfl) ?_
      refine x_end ?_
      refine t_norm ?_
      refine w_ret ?_
      refine b_ret ?_
      refine t_ret ?_
      refine ret1 rfl rfl (fun w' hm => ⟨?_, hm.base (by simp)⟩)
      first | (exfalso; omega) | (unfold mlen; (repeat (first | rw [if_pos (by first | omega | assumption)] | rw [if_neg (by first | omega | (simp only [*]; exact Bool.false_ne_true))])))
    · simp only [hb7, decide_eq_true_eq, decide_eq_false_iff_not, Bool.and_eq_true, Bool.or_eq_true, Bool.and_eq_false_iff, Bool.or_eq_false_iff, Bool.not_eq_true', Bool.not_eq_false', ne_eq, Decidable.not_not] at hc6
      refine w_seq ?_
      refine rg_text ?_
      refine x_bool rfl rfl rfl (v_eql rfl rfl) ?_
      intro b12 hb12
      refine x_val rfl rfl rfl (v_assign rfl) ?_
      refine x_end ?_
      refine t_norm ?_
      refine w_cond rfl (fun hc11 => ?_) (fun hc11 => ?_)
      · simp only [hb12, decide_eq_true_eq, decide_eq_false_iff_not, Bool.and_eq_true, Bool.or_eq_true, Bool.and_eq_false_iff, Bool.or_eq_false_iff, Bool.not_eq_true', Bool.not_eq_false', ne_eq, Decidable.not_not] at hc11
        refine w_seq ?_
        refine w_seq ?_
        refine rg_text ?_
        refine x_val rfl rfl rfl (v_move rfl) ?_
        refine x_callb rfl rfl rfl Tryd.func48 (by kernel_rfl) rfl (fun w1 hw1 => c48 _ w1 hy) ?_
        intro b14 hb14
        refine x_end ?_
        refine t_norm ?_
        refine w_cond rfl (fun hc14 => ?_) (fun hc14 => ?_)
        · simp only [hb14, decide_eq_true_eq, decide_eq_false_iff_not, Bool.and_eq_true, Bool.or_eq_true, Bool.and_eq_false_iff, Bool.or_eq_false_iff, Bool.not_eq_true', Bool.not_eq_false', ne_eq, Decidable.not_not] at hc14
          refine w_seq ?_
          refine rg_text ?_
          refine x_val rfl rfl rfl (v_assign rfl) ?_
          refine x_end ?_
          refine t_norm ?_
          refine w_ret ?_
          refine t_ret ?_
          refine b_ret ?_
          refine t_ret ?_
          refine ret1 rfl rfl (fun w' hm => ⟨?_, hm.base (by simp)⟩)
          first | (exfalso; omega) | (unfold mlen; (repeat (first | rw [if_pos (by first | omega | assumption)] | rw [if_neg (by first | omega | (simp only [*]; exact Bool.false_ne_true))])))
        · simp only [hb14, decide_eq_true_eq, decide_eq_false_iff_not, Bool.and_eq_true, Bool.or_eq_true, Bool.and_eq_false_iff, Bool.or_eq_false_iff, Bool.not_eq_true', Bool.not_eq_false', ne_eq, Decidable.not_not] at hc14
          refine w_skip ?_
          refine t_norm ?_
          refine w_seq ?_
          refine rg_text ?_
          refine x_val rfl rfl rfl (v_assign rfl) ?_
          refine x_end ?_
          refine t_norm ?_
          refine w_ret ?_
          refine b_ret ?_
          refine t_ret ?_
          refine ret1 rfl rfl (fun w' hm => ⟨?_, hm.base (by simp)⟩)
          first | (exfalso; omega) | (unfold mlen; (repeat (first | rw [if_pos (by first | omega | assumption)] | rw [if_neg (by first | omega | (simp only [*]; exact Bool.false_ne_true))])))
      · simp only [hb12, decide_eq_true_eq, decide_eq_false_iff_not, Bool.and_eq_true, Bool.or_eq_true, Bool.and_eq_false_iff, Bool.or_eq_false_iff, Bool.not_eq_true', Bool.not_eq_false', ne_eq, Decidable.not_not] at hc11
        refine w_skip ?_
        refine b_norm ?_
        refine t_norm ?_
        refine w_seq ?_
        refine rg_text ?_
        refine x_val rfl rfl rfl (v_assign rfl) ?_
        refine x_end ?_
        refine t_norm ?_
        refine w_ret ?_
        refine ret1 rfl rfl (fun w' hm => ⟨?_, hm.base (by simp)⟩)
        first | (exfalso; omega) | (unfold mlen; (repeat (first | rw [if_pos (by first | omega | assumption)] | rw [if_neg (by first | omega | (simp only [*]; exact Bool.false_ne_true))])))
  · simp only [hb7, decide_eq_true_eq, decide_eq_false_iff_not, Bool.and_eq_true, Bool.or_eq_true, Bool.and_eq_false_iff, Bool.or_eq_false_iff, Bool.not_eq_true', Bool.not_eq_false', ne_eq, Decidable.not_not] at hc6
    refine w_seq ?_
    refine rg_text ?_
    refine x_bool rfl rfl rfl (v_eql rfl rfl) ?_
    intro b8 hb8
    refine x_val rfl rfl rfl (v_assign rfl) ?_
    refine x_end ?_
    refine t_norm ?_
    refine w_cond rfl (fun hc6 => ?_) (fun hc6 => ?_)
    · simp only [hb8, decide_eq_true_eq, decide_eq_false_iff_not, Bool.and_eq_true, Bool.or_eq_true, Bool.and_eq_false_iff, Bool.or_eq_false_iff, Bool.not_eq_true', Bool.not_eq_false', ne_eq, Decidable.not_not] at hc6
      refine w_skip ?_
      refine t_norm ?_
      refine w_cond rfl (fun hc6 => ?_) (fun hc6 => ?_)
      · simp only [hb8, decide_eq_true_eq, decide_eq_false_iff_not, Bool.and_eq_true, Bool.or_eq_true, Bool.and_eq_false_iff, Bool.or_eq_false_iff, Bool.not_eq_true', Bool.not_eq_false', ne_eq, Decidable.not_not] at hc6
        refine w_seq ?_
        refine rg_text ?_
        refine x_val rfl rfl rfl (v_assign rfl) ?_
        refine x_end ?_
        refine t_norm ?_
        refine w_ret ?_
        refine b_ret ?_
        refine t_ret ?_
        refine ret1 rfl rfl (fun w' hm => ⟨?_, hm.base (by simp)⟩)
        first | (exfalso; omega) | (unfold mlen; (repeat (first | rw [if_pos (by first | omega | assumption)] | rw [if_neg (by first | omega | (simp only [*]; exact Bool.false_ne_true))])))
      · simp only [hb8, decide_eq_true_eq, decide_eq_false_iff_not, Bool.and_eq_true, Bool.or_eq_true, Bool.and_eq_false_iff, Bool.or_eq_false_iff, Bool.not_eq_true', Bool.not_eq_false', ne_eq, Decidable.not_not] at hc6
        refine w_seq ?_
        refine rg_text ?_
        refine x_bool rfl rfl rfl (v_eql rfl rfl) ?_
        intro b12 hb12
        refine x_val rfl rfl rfl (v_assign rfl) ?_
        refine x_end ?_
        refine t_norm ?_
        refine w_cond rfl (fun hc11 => ?_) (fun hc11 => ?_)
        · simp only [hb12, decide_eq_true_eq, decide_eq_false_iff_not, Bool.and_eq_true, Bool.or_eq_true, Bool.and_eq_false_iff, Bool.or_eq_false_iff, Bool.not_eq_true', Bool.not_eq_false', ne_eq, Decidable.not_not] at hc11
          refine w_seq ?_
          refine w_seq ?_
          refine rg_text ?_
          refine x_val rfl rfl rfl (v_move rfl) ?_
          refine x_callb rfl rfl rfl Tryd.func48 (by kernel_rfl) rfl (fun w1 hw1 => c48 _ w1 hy) ?_
          intro b14 hb14
          refine x_end ?_
          refine t_norm ?_
          refine w_cond rfl (fun hc14 => ?_) (fun hc14 => ?_)
          · simp only [hb14, decide_eq_true_eq, decide_eq_false_iff_not, Bool.and_eq_true, Bool.or_eq_true, Bool.and_eq_false_iff, Bool.or_eq_false_iff, Bool.not_eq_true', Bool.not_eq_false', ne_eq, Decidable.not_not] at hc14
            refine w_seq ?_
            refine rg_text ?_
            refine x_val rfl rfl rfl (v_assign rfl) ?_
            refine x_end ?_
            refine t_norm ?_
            refine w_ret ?_
            refine t_ret ?_
            refine b_ret ?_
            refine t_ret ?_
            refine ret1 rfl rfl (fun w' hm => ⟨?_, hm.base (by simp)⟩)
            first | (exfalso; omega) | (unfold mlen; (repeat (first | rw [if_pos (by first | omega | assumption)] | rw [if_neg (by first | omega | (simp only [*]; exact Bool.false_ne_true))])))
          · simp only [hb14, decide_eq_true_eq, decide_eq_false_iff_not, Bool.and_eq_true, Bool.or_eq_true, Bool.and_eq_false_iff, Bool.or_eq_false_iff, Bool.not_eq_true', Bool.not_eq_false', ne_eq, Decidable.not_not] at hc14
            refine w_skip ?_
            refine t_norm ?_
            refine w_seq ?_
            refine rg_text ?_
            refine x_val rfl rfl rfl (v_assign rfl) ?_
            refine x_end ?_
            refine t_norm ?_
            refine w_ret ?_
            refine b_ret ?_
            refine t_ret ?_
            refine ret1 rfl rfl (fun w' hm => ⟨?_, hm.base (by simp)⟩)
            first | (exfalso; omega) | (unfold mlen; (repeat (first | rw [if_pos (by first | omega | assumption)] | rw [if_neg (by first | omega | (simp only [*]; exact Bool.false_ne_true))])))
        · simp only [hb12, decide_eq_true_eq, decide_eq_false_iff_not, Bool.and_eq_true, Bool.or_eq_true, Bool.and_eq_false_iff, Bool.or_eq_false_iff, Bool.not_eq_true', Bool.not_eq_false', ne_eq, Decidable.not_not] at hc11
          refine w_skip ?_
          refine b_norm ?_
          refine t_norm ?_
          refine w_seq ?_
          refine rg_text ?_
          refine x_val rfl rfl rfl (v_assign rfl) ?_
          refine x_end ?_
          refine t_norm ?_
          refine w_ret ?_
          refine ret1 rfl rfl (fun w' hm => ⟨?_, hm.base (by simp)⟩)
          first | (exfalso; omega) | (unfold mlen; (repeat (first | rw [if_pos (by first | omega | assumption)] | rw [if_neg (by first | omega | (simp only [*]; exact Bool.false_ne_true))])))
    · simp only [hb8, decide_eq_true_eq, decide_eq_false_iff_not, Bool.and_eq_true, Bool.or_eq_true, Bool.and_eq_false_iff, Bool.or_eq_false_iff, Bool.not_eq_true', Bool.not_eq_false', ne_eq, Decidable.not_not] at hc6
      refine w_seq ?_
      refine rg_text ?_
      refine x_bool rfl rfl rfl (v_eql rfl rfl) ?_
      intro b9 hb9
      refine x_val rfl rfl rfl (v_assign rfl) ?_
      refine x_end ?_
      refine t_norm ?_
      refine w_cond rfl (fun hc6 => ?_) (fun hc6 => ?_)
      · simp only [hb9, decide_eq_true_eq, decide_eq_false_iff_not, Bool.and_eq_true, Bool.or_eq_true, Bool.and_eq_false_iff, Bool.or_eq_false_iff, Bool.not_eq_true', Bool.not_eq_false', ne_eq, Decidable.not_not] at hc6
        refine w_skip ?_
        refine t_norm ?_
        refine w_cond rfl (fun hc6 => ?_) (fun hc6 => ?_)
        · simp only [hb9, decide_eq_true_eq, decide_eq_false_iff_not, Bool.and_eq_true, Bool.or_eq_true, Bool.and_eq_false_iff, Bool.or_eq_false_iff, Bool.not_eq_true', Bool.not_eq_false', ne_eq, Decidable.not_not] at hc6
          refine w_seq ?_
          refine rg_text ?_
          refine x_val rfl rfl rfl (v_assign rfl) ?_
          refine x_end ?_
          refine t_norm ?_
          refine w_ret ?_
          refine b_ret ?_
          refine t_ret ?_
          refine ret1 rfl rfl (fun w' hm => ⟨?_, hm.base (by simp)⟩)
          first | (exfalso; omega) | (unfold mlen; (repeat (first | rw [if_pos (by first | omega | assumption)] | rw [if_neg (by first | omega | (simp only [*]; exact Bool.false_ne_true))])))
        · simp only [hb9, decide_eq_true_eq, decide_eq_false_iff_not, Bool.and_eq_true, Bool.or_eq_true, Bool.and_eq_false_iff, Bool.or_eq_false_iff, Bool.not_eq_true', Bool.not_eq_false', ne_eq, Decidable.not_not] at hc6
          refine w_seq ?_
          refine rg_text ?_
          refine x_bool rfl rfl rfl (v_eql rfl rfl) ?_
          intro b12 hb12
          refine x_val rfl rfl rfl (v_assign rfl) ?_
          refine x_end ?_
          refine t_norm ?_
          refine w_cond rfl (fun hc11 => ?_) (fun hc11 => ?_)
          · simp only [hb12, decide_eq_true_eq, decide_eq_false_iff_not, Bool.and_eq_true, Bool.or_eq_true, Bool.and_eq_false_iff, Bool.or_eq_false_iff, Bool.not_eq_true', Bool.not_eq_false', ne_eq, Decidable.not_not] at hc11
            refine w_seq ?_
            refine w_seq ?_
            refine rg_text ?_
            refine x_val rfl rfl rfl (v_move rfl) ?_
            refine x_callb rfl rfl rfl Tryd.func48 (by kernel_rfl) rfl (fun w1 hw1 => c48 _ w1 hy) ?_
            intro b14 hb14
            refine x_end ?_
            refine t_norm ?_
            refine w_cond rfl (fun hc14 => ?_) (fun hc14 => ?_)
            · simp only [hb14, decide_eq_true_eq, decide_eq_false_iff_not, Bool.and_eq_true, Bool.or_eq_true, Bool.and_eq_false_iff, Bool.or_eq_false_iff, Bool.not_eq_true', Bool.not_eq_false', ne_eq, Decidable.not_not] at hc14
              refine w_seq ?_
              refine rg_text ?_
              refine x_val rfl rfl rfl (v_assign rfl) ?_
              refine x_end ?_
              refine t_norm ?_
              refine w_ret ?_
              refine t_ret ?_
              refine b_ret ?_
              refine t_ret ?_
              refine ret1 rfl rfl (fun w' hm => ⟨?_, hm.base (by simp)⟩)
              first | (exfalso; omega) | (unfold mlen; (repeat (first | rw [if_pos (by first | omega | assumption)] | rw [if_neg (by first | omega | (simp only [*]; exact Bool.false_ne_true))])))
            · simp only [hb14, decide_eq_true_eq, decide_eq_false_iff_not, Bool.and_eq_true, Bool.or_eq_true, Bool.and_eq_false_iff, Bool.or_eq_false_iff, Bool.not_eq_true', Bool.not_eq_false', ne_eq, Decidable.not_not] at hc14
              refine w_skip ?_
              refine t_norm ?_
              refine w_seq ?_
              refine rg_text ?_
              refine x_val rfl rfl rfl (v_assign rfl) ?_
              refine x_end ?_
              refine t_norm ?_
              refine w_ret ?_
              refine b_ret ?_
              refine t_ret ?_
              refine ret1 rfl rfl (fun w' hm => ⟨?_, hm.base (by simp)⟩)
              first | (exfalso; omega) | (unfold mlen; (repeat (first | rw [if_pos (by first | omega | assumption)] | rw [if_neg (by first | omega | (simp only [*]; exact Bool.false_ne_true))])))
          · simp only [hb12, decide_eq_true_eq, decide_eq_false_iff_not, Bool.and_eq_true, Bool.or_eq_true, Bool.and_eq_false_iff, Bool.or_eq_false_iff, Bool.not_eq_true', Bool.not_eq_false', ne_eq, Decidable.not_not] at hc11
            refine w_skip ?_
            refine b_norm ?_
            refine t_norm ?_
            refine w_seq ?_
            refine rg_text ?_
            refine x_val rfl rfl rfl (v_assign rfl) ?_
            refine x_end ?_
            refine t_norm ?_
            refine w_ret ?_
            refine ret1 rfl rfl (fun w' hm => ⟨?_, hm.base (by simp)⟩)
            first | (exfalso; omega) | (unfold mlen; (repeat (first | rw [if_pos (by first | omega | assumption)] | rw [if_neg (by first | omega | (simp only [*]; exact Bool.false_ne_true))])))
      · simp only [hb9, decide_eq_true_eq, decide_eq_false_iff_not, Bool.and_eq_true, Bool.or_eq_true, Bool.and_eq_false_iff, Bool.or_eq_false_iff, Bool.not_eq_true', Bool.not_eq_false', ne_eq, Decidable.not_not] at hc6
        refine rg_text ?_
        refine x_bool rfl rfl rfl (v_eql rfl rfl) ?_
        intro b10 hb10
        refine x_val rfl rfl rfl (v_assign rfl) ?_
        refine x_end ?_
        refine t_norm ?_
        refine w_cond rfl (fun hc6 => ?_) (fun hc6 => ?_)
        · simp only [hb10, decide_eq_true_eq, decide_eq_false_iff_not, Bool.and_eq_true, Bool.or_eq_true, Bool.and_eq_false_iff, Bool.or_eq_false_iff, Bool.not_eq_true', Bool.not_eq_false', ne_eq, Decidable.not_not] at hc6
          refine w_seq ?_
          refine rg_text ?_
          refine x_val rfl rfl rfl (v_assign rfl) ?_
          refine x_end ?_
          refine t_norm ?_
          refine w_ret ?_
          refine b_ret ?_
          refine t_ret ?_
          refine ret1 rfl rfl (fun w' hm => ⟨?_, hm.base (by simp)⟩)
          first | (exfalso; omega) | (unfold mlen; (repeat (first | rw [if_pos (by first | omega | assumption)] | rw [if_neg (by first | omega | (simp only [*]; exact Bool.false_ne_true))])))
        · simp only [hb10, decide_eq_true_eq, decide_eq_false_iff_not, Bool.and_eq_true, Bool.or_eq_true, Bool.and_eq_false_iff, Bool.or_eq_false_iff, Bool.not_eq_true', Bool.not_eq_false', ne_eq, Decidable.not_not] at hc6
          refine w_seq ?_
          refine rg_text ?_
          refine x_bool rfl rfl rfl (v_eql rfl rfl) ?_
          intro b12 hb12
          refine x_val rfl rfl rfl (v_assign rfl) ?_
          refine x_end ?_
          refine t_norm ?_
          refine w_cond rfl (fun hc11 => ?_) (fun hc11 => ?_)
          · simp only [hb12, decide_eq_true_eq, decide_eq_false_iff_not, Bool.and_eq_true, Bool.or_eq_true, Bool.and_eq_false_iff, Bool.or_eq_false_iff, Bool.not_eq_true', Bool.not_eq_false', ne_eq, Decidable.not_not] at hc11
            refine w_seq ?_
            refine w_seq ?_
            refine rg_text ?_
            refine x_val rfl rfl rfl (v_move rfl) ?_
            refine x_callb rfl rfl rfl Tryd.func48 (by kernel_rfl) rfl (fun w1 hw1 => c48 _ w1 hy) ?_
            intro b14 hb14
            refine x_end ?_
            refine t_norm ?_
            refine w_cond rfl (fun hc14 => ?_) (fun hc14 => ?_)
            · simp only [hb14, decide_eq_true_eq, decide_eq_false_iff_not, Bool.and_eq_true, Bool.or_eq_true, Bool.and_eq_false_iff, Bool.or_eq_false_iff, Bool.not_eq_true', Bool.not_eq_false', ne_eq, Decidable.not_not] at hc14
              refine w_seq ?_
              refine rg_text ?_
              refine x_val rfl rfl rfl (v_assign rfl) ?_
              refine x_end ?_
              refine t_norm ?_
              refine w_ret ?_
              refine t_ret ?_
              refine b_ret ?_
              refine t_ret ?_
              refine ret1 rfl rfl (fun w' hm => ⟨?_, hm.base (by simp)⟩)
              first | (exfalso; omega) | (unfold mlen; (repeat (first | rw [if_pos (by first | omega | assumption)] | rw [if_neg (by first | omega | (simp only [*]; exact Bool.false_ne_true))])))
            · simp only [hb14, decide_eq_true_eq, decide_eq_false_iff_not, Bool.and_eq_true, Bool.or_eq_true, Bool.and_eq_false_iff, Bool.or_eq_false_iff, Bool.not_eq_true', Bool.not_eq_false', ne_eq, Decidable.not_not] at hc14
              refine w_skip ?_
              refine t_norm ?_
              refine w_seq ?_
              refine rg_text ?_
              refine x_val rfl rfl rfl (v_assign rfl) ?_
              refine x_end ?_
              refine t_norm ?_
              refine w_ret ?_
              refine b_ret ?_
              refine t_ret ?_
              refine ret1 rfl rfl (fun w' hm => ⟨?_, hm.base (by simp)⟩)
              first | (exfalso; omega) | (unfold mlen; (repeat (first | rw [if_pos (by first | omega | assumption)] | rw [if_neg (by first | omega | (simp only [*]; exact Bool.false_ne_true))])))
          · simp only [hb12, decide_eq_true_eq, decide_eq_false_iff_not, Bool.and_eq_true, Bool.or_eq_true, Bool.and_eq_false_iff, Bool.or_eq_false_iff, Bool.not_eq_true', Bool.not_eq_false', ne_eq, Decidable.not_not] at hc11
            refine w_skip ?_
            refine b_norm ?_
            refine t_norm ?_
            refine w_seq ?_
            refine rg_text ?_
            refine x_val rfl rfl rfl (v_assign rfl) ?_
            refine x_end ?_
            refine t_norm ?_
            refine w_ret ?_
            refine ret1 rfl rfl (fun w' hm => ⟨?_, hm.base (by simp)⟩)
            first | (exfalso; omega) | (unfold mlen; (repeat (first | rw [if_pos (by first | omega | assumption)] | rw [if_neg (by first | omega | (simp only [*]; exact Bool.false_ne_true))])))
set_option maxRecDepth 100000 in
theorem c35 (y m : Int) (w : World) (hy : in64 y) :
    Calls Tryd.prog 35 #[.int .i64 y, .int .i64 m] w fun e w' => e = .returned (.int .i64 (mlen y m)) ∧ Later w w' := by
  refine enter (vs := [.int .i64 y, .int .i64 m]) Tryd.func35 rfl Tryd.ntmps35 rfl ?_
  refine w_seq ?_
  refine rg_text ?_
  refine x_val rfl rfl rfl (v_assign rfl) ?_
  refine x_end ?_
  refine t_norm ?_
  refine w_seq ?_
  refine w_seq ?_
  refine rg_text ?_
  refine x_val rfl rfl rfl (v_move rfl) ?_
  refine x_bool rfl rfl rfl (v_eql rfl rfl) ?_
  intro b7 hb7
  refine x_val rfl rfl rfl (v_move rfl) ?_
  refine x_if [] rfl rfl rfl rfl rfl (fun hg => by obtain ⟨hg0, _⟩ := hg; subst hg0; (try simp only [List.cons_append, List.nil_append, gvl_nil, gvl_t, gvl_f]); exact v_move rfl) ?_
  refine x_ifb [] rfl rfl rfl rfl rfl (fun hg => by obtain ⟨hg0, _⟩ := hg; subst hg0; (try simp only [List.cons_append, List.nil_append, gvl_nil, gvl_t, gvl_f]); exact v_eql rfl rfl) ?_
  intro b10 hb10
  refine x_bool rfl rfl rfl (v_or rfl rfl) ?_
  intro b11 hb11
  refine x_val rfl rfl rfl (v_move rfl) ?_
  refine x_if [] rfl rfl rfl rfl rfl (fun hg => by obtain ⟨hg0, _⟩ := hg; subst hg0; (try simp only [List.cons_append, List.nil_append, gvl_nil, gvl_t, gvl_f]); exact v_move rfl) ?_
  refine x_ifb [] rfl rfl rfl rfl rfl (fun hg => by obtain ⟨hg0, _⟩ := hg; subst hg0; (try simp only [List.cons_append, List.nil_append, gvl_nil, gvl_t, gvl_f]); exact v_eql rfl rfl) ?_
  intro b14 hb14
  refine x_bool rfl rfl rfl (v_or rfl rfl) ?_
  intro b15 hb15
  refine x_val rfl rfl rfl (v_move rfl) ?_
  refine x_if [] rfl rfl rfl rfl rfl (fun hg => by obtain ⟨hg0, _⟩ := hg; subst hg0; (try simp only [List.cons_append, List.nil_append, gvl_nil, gvl_t, gvl_f]); exact v_move rfl) ?_
  refine x_ifb [] rfl rfl rfl rfl rfl (fun hg => by obtain ⟨hg0, _⟩ := hg; subst hg0; (try simp only [List.cons_append, List.nil_append, gvl_nil, gvl_t, gvl_f]); exact v_eql rfl rfl) ?_
  intro b18 hb18
  refine x_bool rfl rfl rfl (v_or rfl rfl) ?_
  intro b19 hb19
  refine x_end ?_
  refine t_norm ?_
  refine w_cond rfl (fun hc19 => ?_) (fun hc19 => ?_)
  · simp only [hb19, hb18, hb15, hb14, hb11, hb10, hb7, decide_eq_true_eq, decide_eq_false_iff_not, Bool.and_eq_true, Bool.or_eq_true, Bool.and_eq_false_iff, Bool.or_eq_false_iff, Bool.not_eq_true', Bool.not_eq_false', ne_eq, Decidable.not_not] at hc19
    refine w_seq ?_
    refine rg_text ?_
    refine x_val rfl rfl rfl (v_assign rfl) ?_
    refine x_end ?_
    refine t_norm ?_
    refine w_ret ?_
    refine t_ret ?_
    refine ret1 rfl rfl (fun w' hm => ⟨?_, hm.base (by simp)⟩)
    first | (exfalso; omega) | (unfold mlen; (repeat (first | rw [if_pos (by first | omega | assumption)] | rw [if_neg (by first | omega | (simp only [*]; exact Bool.false_ne_true))])))
  · simp only [hb19, hb18, hb15, hb14, hb11, hb10, hb7, decide_eq_true_eq, decide_eq_false_iff_not, Bool.and_eq_true, Bool.or_eq_true, Bool.and_eq_false_iff, Bool.or_eq_false_iff, Bool.not_eq_true', Bool.not_eq_false', ne_eq, Decidable.not_not] at hc19
    refine w_skip ?_
    refine t_norm ?_
    refine w_seq ?_
    refine w_seq ?_
    refine rg_text ?_
    refine x_val rfl rfl rfl (v_move rfl) ?_
    refine x_bool rfl rfl rfl (v_neq rfl rfl) ?_
    intro b21 hb21
    refine x_end ?_
    refine t_norm ?_
    refine w_cond rfl (fun hc21 => ?_) (fun hc21 => ?_)
    · simp only [hb21, decide_eq_true_eq, decide_eq_false_iff_not, Bool.and_eq_true, Bool.or_eq_true, Bool.and_eq_false_iff, Bool.or_eq_false_iff, Bool.not_eq_true', Bool.not_eq_false', ne_eq, Decidable.not_not] at hc21
      refine w_seq ?_
      refine rg_text ?_
      refine x_val rfl rfl rfl (v_assign rfl) ?_
      refine x_end ?_
      refine t_norm ?_
      refine w_ret ?_
      refine t_ret ?_
      refine ret1 rfl rfl (fun w' hm => ⟨?_, hm.base (by simp)⟩)
      first | (exfalso; omega) | (unfold mlen; (repeat (first | rw [if_pos (by first | omega | assumption)] | rw [if_neg (by first | omega | (simp only [*]; exact Bool.false_ne_true))])))
    · simp only [hb21, decide_eq_true_eq, decide_eq_false_iff_not, Bool.and_eq_true, Bool.or_eq_true, Bool.and_eq_false_iff, Bool.or_eq_false_iff, Bool.not_eq_true', Bool.not_eq_false', ne_eq, Decidable.not_not] at hc21
      refine w_skip ?_
      refine t_norm ?_
      refine w_seq ?_
      refine rg_text ?_
      refine x_val rfl rfl rfl (v_move rfl) ?_
      refine x_callb rfl rfl rfl Tryd.func49 (by kernel_rfl) rfl (fun w1 hw1 => c49 _ w1 hy) ?_
      intro b23 hb23
      refine x_val rfl rfl rfl (v_assign rfl) ?_
      refine x_end ?_
      refine t_norm ?_
      refine w_seq ?_
      refine w_seq ?_
      refine rg_text ?_
      refine x_val rfl rfl rfl (v_move rfl) ?_
      refine x_end ?_
      refine t_norm ?_
      refine w_cond rfl (fun hc24 => ?_) (fun hc24 => ?_)
      · simp only [hb23, decide_eq_true_eq, decide_eq_false_iff_not, Bool.and_eq_true, Bool.or_eq_true, Bool.and_eq_false_iff, Bool.or_eq_false_iff, Bool.not_eq_true', Bool.not_eq_false', ne_eq, Decidable.not_not] at hc24
        refine w_seq ?_
        refine rg_text ?_
        refine x_val rfl rfl rfl (v_assign rfl) ?_
        refine x_end ?_
        refine t_norm ?_
        refine w_ret ?_
        refine t_ret ?_
        refine ret1 rfl rfl (fun w' hm => ⟨?_, hm.base (by simp)⟩)
        first | (exfalso; omega) | (unfold mlen; (repeat (first | rw [if_pos (by first | omega | assumption)] | rw [if_neg (by first | omega | (simp only [*]; exact Bool.false_ne_true))])))
      · simp only [hb23, decide_eq_true_eq, decide_eq_false_iff_not, Bool.and_eq_true, Bool.or_eq_true, Bool.and_eq_false_iff, Bool.or_eq_false_iff, Bool.not_eq_true', Bool.not_eq_false', ne_eq, Decidable.not_not] at hc24
        refine w_skip ?_
        refine t_norm ?_
        refine w_seq ?_
        refine rg_text ?_
        refine x_val rfl rfl rfl (v_assign rfl) ?_
        refine x_end ?_
        refine t_norm ?_
        refine w_ret ?_
        refine ret1 rfl rfl (fun w' hm => ⟨?_, hm.base (by simp)⟩)
        first | (exfalso; omega) | (unfold mlen; (repeat (first | rw [if_pos (by first | omega | assumption)] | rw [if_neg (by first | omega | (simp only [*]; exact Bool.false_ne_true))])))
set_option maxRecDepth 100000 in
theorem c34 (y : Int) (w : World) (h : 1 ≤ y ∧ y ≤ 10001) :
    Calls Tryd.prog 34 #[.int .i64 y] w fun e w' => e = .returned (.int .i64 (NY y)) ∧ Later w w' := by
  refine enter (vs := [.int .i64 y]) Tryd.func34 rfl Tryd.ntmps34 rfl ?_
  refine w_seq ?_
  refine rg_text ?_
  refine x_val rfl rfl rfl (v_assign rfl) ?_
  refine x_end ?_
  refine t_norm ?_
  refine w_seq ?_
  refine rg_text ?_
  refine x_val rfl rfl rfl (v_move rfl) ?_
  refine x_val rfl rfl rfl (v_subi rfl rfl rfl (by first | omega | (dsimp only; omega))) ?_
  refine x_val rfl rfl rfl (v_assign rfl) ?_
  refine x_end ?_
  refine t_norm ?_
  refine w_seq ?_
  refine rg_text ?_
  refine x_val rfl rfl rfl (v_move rfl) ?_
  refine x_val rfl rfl rfl (v_muli rfl rfl rfl (by first | omega | (dsimp only; omega))) ?_
  refine x_val rfl rfl rfl (v_addi rfl rfl rfl (by first | omega | (dsimp only; omega))) ?_
  refine x_val rfl rfl rfl (v_move rfl) ?_
  refine x_val rfl rfl rfl (v_quoi rfl rfl (by decide) (Int.tdiv_eq_ediv_of_nonneg (by omega)) (by omega)) ?_
  refine x_val rfl rfl rfl (v_addi rfl rfl rfl (by first | omega | (dsimp only; omega))) ?_
  refine x_val rfl rfl rfl (v_move rfl) ?_
  refine x_val rfl rfl rfl (v_quoi rfl rfl (by decide) (Int.tdiv_eq_ediv_of_nonneg (by omega)) (by omega)) ?_
  refine x_val rfl rfl rfl (v_subi rfl rfl rfl (by first | omega | (dsimp only; omega))) ?_
  refine x_val rfl rfl rfl (v_move rfl) ?_
  refine x_val rfl rfl rfl (v_quoi rfl rfl (by decide) (Int.tdiv_eq_ediv_of_nonneg (by omega)) (by omega)) ?_
  refine x_val rfl rfl rfl (v_addi rfl rfl rfl (by first | omega | (dsimp only; omega))) ?_
  refine x_val rfl rfl rfl (v_assign rfl) ?_
  refine x_end ?_
  refine t_norm ?_
  refine w_ret ?_
  refine ret1 rfl rfl (fun w' hm => ⟨?_, hm.base (by simp)⟩)
  unfold NY; congr 2
set_option maxRecDepth 100000 in
theorem c36 (y : Int) (w : World) (h : 0 ≤ y ∧ y ≤ 10001) :
    Calls Tryd.prog 36 #[.int .i64 y] w fun e w' => e = .returned (.int .i64 (NY (y + 1) + 719162)) ∧ Later w w' := by
  refine enter (vs := [.int .i64 y]) Tryd.func36 rfl Tryd.ntmps36 rfl ?_
  refine w_seq ?_
  refine rg_text ?_
  refine x_val rfl rfl rfl (v_assign rfl) ?_
  refine x_end ?_
  refine t_norm ?_
  refine w_seq ?_
  refine rg_text ?_
  refine x_val rfl rfl rfl (v_move rfl) ?_
  refine x_val rfl rfl rfl (v_muli rfl rfl rfl (by first | omega | (dsimp only; omega))) ?_
  refine x_val rfl rfl rfl (v_move rfl) ?_
  refine x_val rfl rfl rfl (v_quoi rfl rfl (by decide) (Int.tdiv_eq_ediv_of_nonneg (by omega)) (by omega)) ?_
  refine x_val rfl rfl rfl (v_addi rfl rfl rfl (by first | omega | (dsimp only; omega))) ?_
  refine x_val rfl rfl rfl (v_move rfl) ?_
  refine x_val rfl rfl rfl (v_quoi rfl rfl (by decide) (Int.tdiv_eq_ediv_of_nonneg (by omega)) (by omega)) ?_
  refine x_val rfl rfl rfl (v_subi rfl rfl rfl (by first | omega | (dsimp only; omega))) ?_
  refine x_val rfl rfl rfl (v_move rfl) ?_
  refine x_val rfl rfl rfl (v_quoi rfl rfl (by decide) (Int.tdiv_eq_ediv_of_nonneg (by omega)) (by omega)) ?_
  refine x_val rfl rfl rfl (v_addi rfl rfl rfl (by first | omega | (dsimp only; omega))) ?_
  refine x_val rfl rfl rfl (v_assign rfl) ?_
  refine x_end ?_
  refine t_norm ?_
  refine w_ret ?_
  refine ret1 rfl rfl (fun w' hm => ⟨?_, hm.base (by simp)⟩)
  unfold NY; congr 1; congr 1; rw [show y + 1 - 1 = y by omega]; omega
set_option maxRecDepth 100000 in
theorem c37 (n : Int) (w : World) :
    Calls Tryd.prog 37 #[.int .i64 n] w fun e w' => e = .returned (.bool (decide (okDay n))) ∧ Later w w' := by
  refine enter (vs := [.int .i64 n]) Tryd.func37 rfl Tryd.ntmps37 rfl ?_
  refine w_seq ?_
  refine rg_text ?_
  refine x_val rfl rfl rfl (v_assign rfl) ?_
  refine x_end ?_
  refine t_norm ?_
  refine w_seq ?_
  refine rg_text ?_
  refine x_val rfl rfl rfl (v_move rfl) ?_
  refine x_bool rfl rfl rfl (v_geq rfl rfl) ?_
  intro b4 hb4
  refine x_val rfl rfl rfl (v_move rfl) ?_
  refine x_if [] rfl rfl rfl rfl rfl (fun hg => by obtain ⟨hg0, _⟩ := hg; subst hg0; (try simp only [List.cons_append, List.nil_append, gvl_nil, gvl_t, gvl_f]); exact v_move rfl) ?_
  refine x_ifb [] rfl rfl rfl rfl rfl (fun hg => by obtain ⟨hg0, _⟩ := hg; subst hg0; (try simp only [List.cons_append, List.nil_append, gvl_nil, gvl_t, gvl_f]); exact v_leq rfl rfl) ?_
  intro b7 hb7
  refine x_bool rfl rfl rfl (v_and rfl rfl) ?_
  intro b8 hb8
  refine x_val rfl rfl rfl (v_assign rfl) ?_
  refine x_end ?_
  refine t_norm ?_
  refine w_ret ?_
  refine ret1 rfl rfl (fun w' hm => ⟨?_, hm.base (by simp)⟩)
  rw [hb8, hb7, hb4, ok_dec]
set_option maxRecDepth 100000 in
theorem c39 (n : Int) (w : World) :
    Calls Tryd.prog 39 #[.int .i64 n] w fun e w' => e = .returned (.bool (decide (okDay n))) ∧ Later w w' := by
  refine enter (vs := [.int .i64 n]) Tryd.func39 rfl Tryd.ntmps39 rfl ?_
  refine w_seq ?_
  refine rg_text ?_
  refine x_val rfl rfl rfl (v_assign rfl) ?_
  refine x_end ?_
  refine t_norm ?_
  refine w_seq ?_
  refine rg_text ?_
  refine x_val rfl rfl rfl (v_move rfl) ?_
  refine x_bool rfl rfl rfl (v_geq rfl rfl) ?_
  intro b4 hb4
  refine x_val rfl rfl rfl (v_move rfl) ?_
  refine x_if [] rfl rfl rfl rfl rfl (fun hg => by obtain ⟨hg0, _⟩ := hg; subst hg0; (try simp only [List.cons_append, List.nil_append, gvl_nil, gvl_t, gvl_f]); exact v_move rfl) ?_
  refine x_ifb [] rfl rfl rfl rfl rfl (fun hg => by obtain ⟨hg0, _⟩ := hg; subst hg0; (try simp only [List.cons_append, List.nil_append, gvl_nil, gvl_t, gvl_f]); exact v_leq rfl rfl) ?_
  intro b7 hb7
  refine x_bool rfl rfl rfl (v_and rfl rfl) ?_
  intro b8 hb8
  refine x_val rfl rfl rfl (v_assign rfl) ?_
  refine x_end ?_
  refine t_norm ?_
  refine w_ret ?_
  refine ret1 rfl rfl (fun w' hm => ⟨?_, hm.base (by simp)⟩)
  rw [hb8, hb7, hb4, ok_dec]
set_option maxRecDepth 100000 in
theorem c17 (n : Int) (w : World) :
    Calls Tryd.prog 17 #[.int .i64 n] w fun e w' => e = .returned (.int .i64 ((n + 3) % 7)) ∧ Later w w' := by
  have h7 := tmod7 n
  refine enter (vs := [.int .i64 n]) Tryd.func17 rfl Tryd.ntmps17 rfl ?_
  refine w_seq ?_
  refine rg_text ?_
  refine x_val rfl rfl rfl (v_assign rfl) ?_
  refine x_end ?_
  refine t_norm ?_
  refine w_seq ?_
  refine rg_text ?_
  refine x_val rfl rfl rfl (v_move rfl) ?_
  refine x_val rfl rfl rfl (v_rem rfl rfl (by first | omega | (dsimp only; omega))) ?_
  refine x_val rfl rfl rfl (v_addi rfl rfl rfl (by first | omega | (dsimp only; omega))) ?_
  refine x_val rfl rfl rfl (v_addi rfl rfl rfl (by first | omega | (dsimp only; omega))) ?_
  refine x_val rfl rfl rfl (v_rem rfl rfl (by first | omega | (dsimp only; omega))) ?_
  refine x_val rfl rfl rfl (v_assign rfl) ?_
  refine x_end ?_
  refine t_norm ?_
  refine w_ret ?_
  refine ret1 rfl rfl (fun w' hm => ⟨?_, hm.base (by simp)⟩)
  rw [wk_eq]
set_option maxRecDepth 100000 in
theorem c18 (n : Int) (w : World) :
    Calls Tryd.prog 18 #[.int .i64 n] w fun e w' => e = .returned (.int .i64 ((n + 3) % 7)) ∧ Later w w' := by
  have h7 := tmod7 n
  refine enter (vs := [.int .i64 n]) Tryd.func18 rfl Tryd.ntmps18 rfl ?_
  refine w_seq ?_
  refine rg_text ?_
  refine x_val rfl rfl rfl (v_assign rfl) ?_
  refine x_end ?_
  refine t_norm ?_
  refine w_seq ?_
  refine rg_text ?_
  refine x_val rfl rfl rfl (v_move rfl) ?_
  refine x_val rfl rfl rfl (v_rem rfl rfl (by first | omega | (dsimp only; omega))) ?_
  refine x_val rfl rfl rfl (v_addi rfl rfl rfl (by first | omega | (dsimp only; omega))) ?_
  refine x_val rfl rfl rfl (v_rem rfl rfl (by first | omega | (dsimp only; omega))) ?_
  refine x_val rfl rfl rfl (v_assign rfl) ?_
  refine x_end ?_
  refine t_norm ?_
  refine w_ret ?_
  refine ret1 rfl rfl (fun w' hm => ⟨?_, hm.base (by simp)⟩)
  rw [← wk_eq, Int.add_assoc]; rfl

end Go.Proofs.YtffdbbcmibamjaaDoor

namespace Go.Proofs.YtffdbbcmibamjaaDoor
open Go.RowKit Go.PK
set_option linter.unusedVariables false
set_option linter.unusedSimpArgs false
set_option maxRecDepth 100000 in
theorem c13 (y m d : Int) (w : World) (hy : in64 y) :
    Calls Tryd.prog 13 #[.int .i64 y, .int .i64 m, .int .i64 d] w fun e w' => e = .returned (.tuple #[.int .i64 (dayV y m d), .bool (decide (validD y m d))]) ∧ Later w w' := by
  refine enter (vs := [.int .i64 y, .int .i64 m, .int .i64 d]) Tryd.func13 rfl Tryd.ntmps13 rfl ?_
  refine w_seq ?_
  refine rg_text ?_
  refine x_val rfl rfl rfl (v_assign rfl) ?_
  refine x_val rfl rfl rfl (v_assign rfl) ?_
  refine x_end ?_
  refine t_norm ?_
  refine w_seq ?_
  refine w_seq ?_
  refine rg_text ?_
  refine x_val rfl rfl rfl (v_move rfl) ?_
  refine x_bool rfl rfl rfl (v_lss rfl rfl) ?_
  intro b11 hb11
  refine x_val rfl rfl rfl (v_move rfl) ?_
  refine x_if [] rfl rfl rfl rfl rfl (fun hg => by obtain ⟨hg0, _⟩ := hg; subst hg0; (try simp only [List.cons_append, List.nil_append, gvl_nil, gvl_t, gvl_f]); exact v_move rfl) ?_
  refine x_ifb [] rfl rfl rfl rfl rfl (fun hg => by obtain ⟨hg0, _⟩ := hg; subst hg0; (try simp only [List.cons_append, List.nil_append, gvl_nil, gvl_t, gvl_f]); exact v_gtr rfl rfl) ?_
  intro b14 hb14
  refine x_bool rfl rfl rfl (v_or rfl rfl) ?_
  intro b15 hb15
  refine x_val rfl rfl rfl (v_move rfl) ?_
  refine x_if [] rfl rfl rfl rfl rfl (fun hg => by obtain ⟨hg0, _⟩ := hg; subst hg0; (try simp only [List.cons_append, List.nil_append, gvl_nil, gvl_t, gvl_f]); exact v_move rfl) ?_
  refine x_ifb [] rfl rfl rfl rfl rfl (fun hg => by obtain ⟨hg0, _⟩ := hg; subst hg0; (try simp only [List.cons_append, List.nil_append, gvl_nil, gvl_t, gvl_f]); exact v_lss rfl rfl) ?_
  intro b18 hb18
  refine x_bool rfl rfl rfl (v_or rfl rfl) ?_
  intro b19 hb19
  refine x_val rfl rfl rfl (v_move rfl) ?_
  refine x_if [] rfl rfl rfl rfl rfl (fun hg => by obtain ⟨hg0, _⟩ := hg; subst hg0; (try simp only [List.cons_append, List.nil_append, gvl_nil, gvl_t, gvl_f]); exact v_move rfl) ?_
  refine x_ifb [] rfl rfl rfl rfl rfl (fun hg => by obtain ⟨hg0, _⟩ := hg; subst hg0; (try simp only [List.cons_append, List.nil_append, gvl_nil, gvl_t, gvl_f]); exact v_gtr rfl rfl) ?_
  intro b22 hb22
  refine x_bool rfl rfl rfl (v_or rfl rfl) ?_
  intro b23 hb23
  refine x_val rfl rfl rfl (v_move rfl) ?_
  refine x_if [] rfl rfl rfl rfl rfl (fun hg => by obtain ⟨hg0, _⟩ := hg; subst hg0; (try simp only [List.cons_append, List.nil_append, gvl_nil, gvl_t, gvl_f]); exact v_move rfl) ?_
  refine x_ifb [] rfl rfl rfl rfl rfl (fun hg => by obtain ⟨hg0, _⟩ := hg; subst hg0; (try simp only [List.cons_append, List.nil_append, gvl_nil, gvl_t, gvl_f]); exact v_lss rfl rfl) ?_
  intro b26 hb26
  refine x_bool rfl rfl rfl (v_or rfl rfl) ?_
  intro b27 hb27
  refine x_val rfl rfl rfl (v_move rfl) ?_
  refine x_if [] rfl rfl rfl rfl rfl (fun hg => by obtain ⟨hg0, _⟩ := hg; subst hg0; (try simp only [List.cons_append, List.nil_append, gvl_nil, gvl_t, gvl_f]); exact v_move rfl) ?_
  refine x_if [] rfl rfl rfl rfl rfl (fun hg => by obtain ⟨hg0, _⟩ := hg; subst hg0; (try simp only [List.cons_append, List.nil_append, gvl_nil, gvl_t, gvl_f]); exact v_move rfl) ?_
  refine x_if [] rfl rfl rfl rfl rfl (fun hg => by obtain ⟨hg0, _⟩ := hg; subst hg0; (try simp only [List.cons_append, List.nil_append, gvl_nil, gvl_t, gvl_f]); exact v_move rfl) ?_
  refine x_call_if [] rfl rfl rfl rfl rfl Tryd.func33 (by kernel_rfl) (fun hg => by obtain ⟨hg0, _⟩ := hg; subst hg0; (try simp only [List.cons_append, List.nil_append, gvl_nil, gvl_t, gvl_f]); refine ⟨_, rfl, ?_⟩; exact fun w1 hw1 => c33 _ _ w1 hy) ?_
  refine x_ifb [] rfl rfl rfl rfl rfl (fun hg => by obtain ⟨hg0, _⟩ := hg; subst hg0; (try simp only [List.cons_append, List.nil_append, gvl_nil, gvl_t, gvl_f]); exact v_gtr rfl rfl) ?_
  intro b33 hb33
  refine x_bool rfl rfl rfl (v_or rfl rfl) ?_
  intro b34 hb34
  refine x_end ?_
  refine t_norm ?_
  refine w_cond rfl (fun hc34 => ?_) (fun hc34 => ?_)
  · simp only [hb34, hb33, hb27, hb26, hb23, hb22, hb19, hb18, hb15, hb14, hb11, decide_eq_true_eq, decide_eq_false_iff_not, Bool.and_eq_true, Bool.or_eq_true, Bool.and_eq_false_iff, Bool.or_eq_false_iff, Bool.not_eq_true', Bool.not_eq_false', ne_eq, Decidable.not_not] at hc34
    have hv : ¬validD y m d := fun h => by unfold validD at h; omega
    refine w_seq ?_
    refine rg_text ?_
    refine x_val rfl rfl rfl (v_assign rfl) ?_
    refine x_val rfl rfl rfl (v_assign rfl) ?_
    refine x_end ?_
    refine t_norm ?_
    refine w_ret ?_
    refine t_ret ?_
    refine ret2 rfl rfl rfl (fun w' hm => ⟨?_, hm.base (by simp)⟩)
    unfold dayV; rw [if_neg hv, decide_eq_false hv]
  · simp only [hb34, hb33, hb27, hb26, hb23, hb22, hb19, hb18, hb15, hb14, hb11, decide_eq_true_eq, decide_eq_false_iff_not, Bool.and_eq_true, Bool.or_eq_true, Bool.and_eq_false_iff, Bool.or_eq_false_iff, Bool.not_eq_true', Bool.not_eq_false', ne_eq, Decidable.not_not] at hc34
    have hv : validD y m d := by unfold validD; omega
    have hny := NY_rng (y := y) ⟨hv.1, by have := hv.2.1; omega⟩
    have hdl := mlen_rng y m
    obtain ⟨v1, v2, v3, v4, v5, v6⟩ := id hv
    refine w_skip ?_
    refine t_norm ?_
    refine w_seq ?_
    refine rg_text ?_
    refine x_val rfl rfl rfl (v_move rfl) ?_
    refine x_callv rfl rfl rfl Tryd.func34 (by kernel_rfl) rfl (fun w1 hw1 => c34 _ w1 ⟨v1, by omega⟩) ?_
    refine x_val rfl rfl rfl (v_move rfl) ?_
    refine x_val rfl rfl rfl (v_addi rfl rfl rfl (by first | omega | (dsimp only; omega))) ?_
    refine x_val rfl rfl rfl (v_subi rfl rfl rfl (by first | omega | (dsimp only; omega))) ?_
    refine x_val rfl rfl rfl (v_assign rfl) ?_
    refine x_end ?_
    refine t_norm ?_
    refine w_seq ?_
    refine w_seq ?_
    refine rg_text ?_
    refine x_val rfl rfl rfl (v_assign rfl) ?_
    refine x_end ?_
    refine t_norm ?_
    refine w_block ?_
    refine w_loop (σ := Nat × Int) (fun x => 1 ≤ x.1 ∧ (x.1 : Int) ≤ m ∧ x.2 = NY y + d - 1 + moff y (x.1 - 1)) (fun x => [(0, Value.int .i64 y), (1, Value.int .i64 m), (8, Value.int .i64 x.2), (9, Value.int .i64 (x.1 : Nat))]) (fun x => []) (fun x => [(w, fun _ => True)]) (fun x => (m - x.1).toNat) ((1, NY y + d - 1)) (⟨Nat.le_refl _, hv.2.2.1, by simp [moff]⟩) (l_start (by repeat (first | exact Sub.nil | refine Sub.cons rfl ?_)) (fun _ h => h)) ?_
    rintro ⟨k, a⟩ ⟨hk1, hk, ha⟩
    refine w_state ([(0, Value.int .i64 y), (1, Value.int .i64 m), (8, Value.int .i64 a), (9, Value.int .i64 (k : Nat))]) ([]) ([(w, fun _ => True)]) ?_
    dsimp only at hk1 hk ha
    have hmo := moff_ub (y := y) (k := k - 1) (by have := hv.2.2.2.1; omega)
    have hmn := moff_nonneg y (k - 1)
    have hml := mlen_rng y (k : Int)
    refine w_seq ?_
    refine w_seq ?_
    refine rg_text ?_
    refine x_val rfl rfl rfl (v_move rfl) ?_
    refine x_val rfl rfl rfl (v_move rfl) ?_
    refine x_bool rfl rfl rfl (v_lss rfl rfl) ?_
    intro b42 hb42
    refine x_end ?_
    refine t_norm ?_
    refine w_cond rfl (fun hc42 => ?_) (fun hc42 => ?_)
    · simp only [hb42, decide_eq_true_eq, decide_eq_false_iff_not, Bool.and_eq_true, Bool.or_eq_true, Bool.and_eq_false_iff, Bool.or_eq_false_iff, Bool.not_eq_true', Bool.not_eq_false', ne_eq, Decidable.not_not] at hc42
      refine w_skip ?_
      refine t_norm ?_
      refine w_seq ?_
      refine w_block ?_
      refine rg_text ?_
      refine x_val rfl rfl rfl (v_move rfl) ?_
      refine x_val rfl rfl rfl (v_move rfl) ?_
      refine x_val rfl rfl rfl (v_move rfl) ?_
      refine x_callv rfl rfl rfl Tryd.func33 (by kernel_rfl) rfl (fun w1 hw1 => c33 _ _ w1 hy) ?_
      refine x_val rfl rfl rfl (v_addi rfl rfl rfl (by first | omega | (dsimp only; omega))) ?_
      refine x_val rfl rfl rfl (v_assign rfl) ?_
      refine x_end ?_
      refine b_norm ?_
      refine t_norm ?_
      refine rg_text ?_
      refine x_val rfl rfl rfl (v_move rfl) ?_
      refine x_val rfl rfl rfl (v_addi rfl rfl rfl (by first | omega | (dsimp only; omega))) ?_
      refine x_val rfl rfl rfl (v_assign rfl) ?_
      refine x_end ?_
      have hmp := moff_pred y hk1
      exact l_norm (k + 1, a + mlen y (k : Int)) ⟨by dsimp only; omega, by dsimp only; omega, by dsimp only; rw [Nat.add_sub_cancel, hmp, ha]; omega⟩ (by simp only; omega) (by repeat (first | exact Sub.nil | refine Sub.cons rfl ?_)) (fun _ h => h)
    · simp only [hb42, decide_eq_true_eq, decide_eq_false_iff_not, Bool.and_eq_true, Bool.or_eq_true, Bool.and_eq_false_iff, Bool.or_eq_false_iff, Bool.not_eq_true', Bool.not_eq_false', ne_eq, Decidable.not_not] at hc42
      refine w_exit ?_
      refine t_exit ?_
      refine t_exit ?_
      refine b_hit ?_
      refine t_norm ?_
      refine w_seq ?_
      refine rg_text ?_
      refine x_val rfl rfl rfl (v_move rfl) ?_
      refine x_val rfl rfl rfl (v_assign rfl) ?_
      refine x_val rfl rfl rfl (v_assign rfl) ?_
      refine x_end ?_
      refine t_norm ?_
      refine w_ret ?_
      refine ret2 rfl rfl rfl (fun w' hm => ⟨?_, hm.base (by simp)⟩)
      have hkm : (k : Int) = m := by omega
      unfold dayV dayN; rw [if_pos hv, decide_eq_true hv, ← hkm, Int.toNat_natCast, ha]
set_option maxRecDepth 100000 in
theorem c14 (y m d : Int) (w : World) (hy : in64 y) :
    Calls Tryd.prog 14 #[.int .i64 y, .int .i64 m, .int .i64 d] w fun e w' => e = .returned (.tuple #[.int .i64 (dayV y m d), .bool (decide (validD y m d))]) ∧ Later w w' := by
  refine enter (vs := [.int .i64 y, .int .i64 m, .int .i64 d]) Tryd.func14 rfl Tryd.ntmps14 rfl ?_
  refine w_seq ?_
  refine rg_text ?_
  refine x_val rfl rfl rfl (v_assign rfl) ?_
  refine x_val rfl rfl rfl (v_assign rfl) ?_
  refine x_end ?_
  refine t_norm ?_
  refine w_seq ?_
  refine w_seq ?_
  refine rg_text ?_
  refine x_val rfl rfl rfl (v_move rfl) ?_
  refine x_bool rfl rfl rfl (v_lss rfl rfl) ?_
  intro b11 hb11
  refine x_val rfl rfl rfl (v_move rfl) ?_
  refine x_if [] rfl rfl rfl rfl rfl (fun hg => by obtain ⟨hg0, _⟩ := hg; subst hg0; (try simp only [List.cons_append, List.nil_append, gvl_nil, gvl_t, gvl_f]); exact v_move rfl) ?_
  refine x_ifb [] rfl rfl rfl rfl rfl (fun hg => by obtain ⟨hg0, _⟩ := hg; subst hg0; (try simp only [List.cons_append, List.nil_append, gvl_nil, gvl_t, gvl_f]); exact v_gtr rfl rfl) ?_
  intro b14 hb14
  refine x_bool rfl rfl rfl (v_or rfl rfl) ?_
  intro b15 hb15
  refine x_val rfl rfl rfl (v_move rfl) ?_
  refine x_if [] rfl rfl rfl rfl rfl (fun hg => by obtain ⟨hg0, _⟩ := hg; subst hg0; (try simp only [List.cons_append, List.nil_append, gvl_nil, gvl_t, gvl_f]); exact v_move rfl) ?_
  refine x_ifb [] rfl rfl rfl rfl rfl (fun hg => by obtain ⟨hg0, _⟩ := hg; subst hg0; (try simp only [List.cons_append, List.nil_append, gvl_nil, gvl_t, gvl_f]); exact v_lss rfl rfl) ?_
  intro b18 hb18
  refine x_bool rfl rfl rfl (v_or rfl rfl) ?_
  intro b19 hb19
  refine x_val rfl rfl rfl (v_move rfl) ?_
  refine x_if [] rfl rfl rfl rfl rfl (fun hg => by obtain ⟨hg0, _⟩ := hg; subst hg0; (try simp only [List.cons_append, List.nil_append, gvl_nil, gvl_t, gvl_f]); exact v_move rfl) ?_
  refine x_ifb [] rfl rfl rfl rfl rfl (fun hg => by obtain ⟨hg0, _⟩ := hg; subst hg0; (try simp only [List.cons_append, List.nil_append, gvl_nil, gvl_t, gvl_f]); exact v_gtr rfl rfl) ?_
  intro b22 hb22
  refine x_bool rfl rfl rfl (v_or rfl rfl) ?_
  intro b23 hb23
  refine x_val rfl rfl rfl (v_move rfl) ?_
  refine x_if [] rfl rfl rfl rfl rfl (fun hg => by obtain ⟨hg0, _⟩ := hg; subst hg0; (try simp only [List.cons_append, List.nil_append, gvl_nil, gvl_t, gvl_f]); exact v_move rfl) ?_
  refine x_ifb [] rfl rfl rfl rfl rfl (fun hg => by obtain ⟨hg0, _⟩ := hg; subst hg0; (try simp only [List.cons_append, List.nil_append, gvl_nil, gvl_t, gvl_f]); exact v_lss rfl rfl) ?_
  intro b26 hb26
  refine x_bool rfl rfl rfl (v_or rfl rfl) ?_
  intro b27 hb27
  refine x_val rfl rfl rfl (v_move rfl) ?_
  refine x_if [] rfl rfl rfl rfl rfl (fun hg => by obtain ⟨hg0, _⟩ := hg; subst hg0; (try simp only [List.cons_append, List.nil_append, gvl_nil, gvl_t, gvl_f]); exact v_move rfl) ?_
  refine x_if [] rfl rfl rfl rfl rfl (fun hg => by obtain ⟨hg0, _⟩ := hg; subst hg0; (try simp only [List.cons_append, List.nil_append, gvl_nil, gvl_t, gvl_f]); exact v_move rfl) ?_
  refine x_if [] rfl rfl rfl rfl rfl (fun hg => by obtain ⟨hg0, _⟩ := hg; subst hg0; (try simp only [List.cons_append, List.nil_append, gvl_nil, gvl_t, gvl_f]); exact v_move rfl) ?_
  refine x_call_if [] rfl rfl rfl rfl rfl Tryd.func35 (by kernel_rfl) (fun hg => by obtain ⟨hg0, _⟩ := hg; subst hg0; (try simp only [List.cons_append, List.nil_append, gvl_nil, gvl_t, gvl_f]); refine ⟨_, rfl, ?_⟩; exact fun w1 hw1 => c35 _ _ w1 hy) ?_
  refine x_ifb [] rfl rfl rfl rfl rfl (fun hg => by obtain ⟨hg0, _⟩ := hg; subst hg0; (try simp only [List.cons_append, List.nil_append, gvl_nil, gvl_t, gvl_f]); exact v_gtr rfl rfl) ?_
  intro b33 hb33
  refine x_bool rfl rfl rfl (v_or rfl rfl) ?_
  intro b34 hb34
  refine x_end ?_
  refine t_norm ?_
  refine w_cond rfl (fun hc34 => ?_) (fun hc34 => ?_)
  · simp only [hb34, hb33, hb27, hb26, hb23, hb22, hb19, hb18, hb15, hb14, hb11, decide_eq_true_eq, decide_eq_false_iff_not, Bool.and_eq_true, Bool.or_eq_true, Bool.and_eq_false_iff, Bool.or_eq_false_iff, Bool.not_eq_true', Bool.not_eq_false', ne_eq, Decidable.not_not] at hc34
    have hv : ¬validD y m d := fun h => by unfold validD at h; omega
    refine w_seq ?_
    refine rg_text ?_
    refine x_val rfl rfl rfl (v_assign rfl) ?_
    refine x_val rfl rfl rfl (v_assign rfl) ?_
    refine x_end ?_
    refine t_norm ?_
    refine w_ret ?_
    refine t_ret ?_
    refine ret2 rfl rfl rfl (fun w' hm => ⟨?_, hm.base (by simp)⟩)
    unfold dayV; rw [if_neg hv, decide_eq_false hv]
  · simp only [hb34, hb33, hb27, hb26, hb23, hb22, hb19, hb18, hb15, hb14, hb11, decide_eq_true_eq, decide_eq_false_iff_not, Bool.and_eq_true, Bool.or_eq_true, Bool.and_eq_false_iff, Bool.or_eq_false_iff, Bool.not_eq_true', Bool.not_eq_false', ne_eq, Decidable.not_not] at hc34
    have hv : validD y m d := by unfold validD; omega
    have hny := NY_rng (y := y) ⟨hv.1, by have := hv.2.1; omega⟩
    have hdl := mlen_rng y m
    obtain ⟨v1, v2, v3, v4, v5, v6⟩ := id hv
    refine w_skip ?_
    refine t_norm ?_
    refine w_seq ?_
    refine rg_text ?_
    refine x_val rfl rfl rfl (v_move rfl) ?_
    refine x_val rfl rfl rfl (v_subi rfl rfl rfl (by first | omega | (dsimp only; omega))) ?_
    refine x_callv rfl rfl rfl Tryd.func36 (by kernel_rfl) rfl (fun w1 hw1 => c36 _ w1 ⟨by omega, by omega⟩) ?_
    refine x_val rfl rfl rfl (v_addi rfl rfl rfl (by rw [show y - 1 + 1 = y by omega]; omega)) ?_
    refine x_val rfl rfl rfl (v_move rfl) ?_
    refine x_val rfl rfl rfl (v_addi rfl rfl rfl (by rw [show y - 1 + 1 = y by omega]; omega)) ?_
    refine x_val rfl rfl rfl (v_subi (c := NY y + d - 1) rfl rfl (by rw [show y - 1 + 1 = y by omega]; omega) (by omega)) ?_
    refine x_val rfl rfl rfl (v_assign rfl) ?_
    refine x_end ?_
    refine t_norm ?_
    refine w_seq ?_
    refine w_seq ?_
    refine rg_text ?_
    refine x_val rfl rfl rfl (v_assign rfl) ?_
    refine x_end ?_
    refine t_norm ?_
    refine w_block ?_
    refine w_loop (σ := Nat × Int) (fun x => 1 ≤ x.1 ∧ (x.1 : Int) ≤ m ∧ x.2 = NY y + d - 1 + moff y (x.1 - 1)) (fun x => [(0, Value.int .i64 y), (1, Value.int .i64 m), (8, Value.int .i64 x.2), (9, Value.int .i64 (x.1 : Nat))]) (fun x => []) (fun x => [(w, fun _ => True)]) (fun x => (m - x.1).toNat) ((1, NY y + d - 1)) (⟨Nat.le_refl _, hv.2.2.1, by simp [moff]⟩) (l_start (by repeat (first | exact Sub.nil | refine Sub.cons rfl ?_)) (fun _ h => h)) ?_
    rintro ⟨k, a⟩ ⟨hk1, hk, ha⟩
    refine w_state ([(0, Value.int .i64 y), (1, Value.int .i64 m), (8, Value.int .i64 a), (9, Value.int .i64 (k : Nat))]) ([]) ([(w, fun _ => True)]) ?_
    dsimp only at hk1 hk ha
    have hmo := moff_ub (y := y) (k := k - 1) (by have := hv.2.2.2.1; omega)
    have hmn := moff_nonneg y (k - 1)
    have hml := mlen_rng y (k : Int)
    refine w_seq ?_
    refine w_seq ?_
    refine rg_text ?_
    refine x_val rfl rfl rfl (v_move rfl) ?_
    refine x_val rfl rfl rfl (v_move rfl) ?_
    refine x_bool rfl rfl rfl (v_lss rfl rfl) ?_
    intro b44 hb44
    refine x_end ?_
    refine t_norm ?_
    refine w_cond rfl (fun hc44 => ?_) (fun hc44 => ?_)
    · simp only [hb44, decide_eq_true_eq, decide_eq_false_iff_not, Bool.and_eq_true, Bool.or_eq_true, Bool.and_eq_false_iff, Bool.or_eq_false_iff, Bool.not_eq_true', Bool.not_eq_false', ne_eq, Decidable.not_not] at hc44
      refine w_skip ?_
      refine t_norm ?_
      refine w_seq ?_
      refine w_block ?_
      refine rg_text ?_
      refine x_val rfl rfl rfl (v_move rfl) ?_
      refine x_val rfl rfl rfl (v_move rfl) ?_
      refine x_val rfl rfl rfl (v_move rfl) ?_
      refine x_callv rfl rfl rfl Tryd.func35 (by kernel_rfl) rfl (fun w1 hw1 => c35 _ _ w1 hy) ?_
      refine x_val rfl rfl rfl (v_addi rfl rfl rfl (by first | omega | (dsimp only; omega))) ?_
      refine x_val rfl rfl rfl (v_assign rfl) ?_
      refine x_end ?_
      refine b_norm ?_
      refine t_norm ?_
      refine rg_text ?_
      refine x_val rfl rfl rfl (v_move rfl) ?_
      refine x_val rfl rfl rfl (v_addi rfl rfl rfl (by first | omega | (dsimp only; omega))) ?_
      refine x_val rfl rfl rfl (v_assign rfl) ?_
      refine x_end ?_
      have hmp := moff_pred y hk1
      exact l_norm (k + 1, a + mlen y (k : Int)) ⟨by dsimp only; omega, by dsimp only; omega, by dsimp only; rw [Nat.add_sub_cancel, hmp, ha]; omega⟩ (by simp only; omega) (by repeat (first | exact Sub.nil | refine Sub.cons rfl ?_)) (fun _ h => h)
    · simp only [hb44, decide_eq_true_eq, decide_eq_false_iff_not, Bool.and_eq_true, Bool.or_eq_true, Bool.and_eq_false_iff, Bool.or_eq_false_iff, Bool.not_eq_true', Bool.not_eq_false', ne_eq, Decidable.not_not] at hc44
      refine w_exit ?_
      refine t_exit ?_
      refine t_exit ?_
      refine b_hit ?_
      refine t_norm ?_
      refine w_seq ?_
      refine rg_text ?_
      refine x_val rfl rfl rfl (v_move rfl) ?_
      refine x_val rfl rfl rfl (v_assign rfl) ?_
      refine x_val rfl rfl rfl (v_assign rfl) ?_
      refine x_end ?_
      refine t_norm ?_
      refine w_ret ?_
      refine ret2 rfl rfl rfl (fun w' hm => ⟨?_, hm.base (by simp)⟩)
      have hkm : (k : Int) = m := by omega
      unfold dayV dayN; rw [if_pos hv, decide_eq_true hv, ← hkm, Int.toNat_natCast, ha]

end Go.Proofs.YtffdbbcmibamjaaDoor

namespace Go.Proofs.YtffdbbcmibamjaaDoor
open Go.RowKit Go.PK
set_option linter.unusedVariables false
set_option linter.unusedSimpArgs false

theorem civ_of {day y d : Int} {m : Nat} (ho : okDay day) (hy : 1 ≤ y) (hm : 1 ≤ m ∧ m ≤ 12) (hd : 1 ≤ d ∧ d ≤ mlen y m) (he : d + moff y (m - 1) = day - NY y + 1) : civ day = (y, m, d) :=
  civ_eq ho ⟨hy, hm.1, hm.2, hd.1, hd.2, by unfold dayN; omega⟩
theorem year_ub {day y : Int} (ho : okDay day) (h : NY y ≤ day) : y ≤ 9999 := by
  rcases Int.lt_or_le y 10000 with hl | hl
  · omega
  · have := NY_le hl; rw [NY_last] at this; unfold okDay at ho; omega
set_option maxRecDepth 100000 in
theorem c15 (n : Int) (w : World) :
    Calls Tryd.prog 15 #[.int .i64 n] w fun e w' => e = .returned (.tuple #[.int .i64 (civ n).1, .int .i64 (civ n).2.1, .int .i64 (civ n).2.2]) ∧ Later w w' := by
  refine enter (vs := [.int .i64 n]) Tryd.func15 rfl Tryd.ntmps15 rfl ?_
  refine w_seq ?_
  refine rg_text ?_
  refine x_val rfl rfl rfl (v_assign rfl) ?_
  refine x_val rfl rfl rfl (v_assign rfl) ?_
  refine x_val rfl rfl rfl (v_assign rfl) ?_
  refine x_end ?_
  refine t_norm ?_
  refine w_seq ?_
  refine w_seq ?_
  refine rg_text ?_
  refine x_val rfl rfl rfl (v_move rfl) ?_
  refine x_callb rfl rfl rfl Tryd.func37 (by kernel_rfl) rfl (fun w1 hw1 => c37 _ w1) ?_
  intro b6 hb6
  refine x_bool rfl rfl rfl (v_not rfl) ?_
  intro b7 hb7
  refine x_end ?_
  refine t_norm ?_
  refine w_cond rfl (fun hc7 => ?_) (fun hc7 => ?_)
  · simp only [hb7, hb6, decide_eq_true_eq, decide_eq_false_iff_not, Bool.and_eq_true, Bool.or_eq_true, Bool.and_eq_false_iff, Bool.or_eq_false_iff, Bool.not_eq_true', Bool.not_eq_false', ne_eq, Decidable.not_not] at hc7
    have ho : ¬okDay n := by simpa using hc7
    refine w_seq ?_
    refine rg_text ?_
    refine x_val rfl rfl rfl (v_assign rfl) ?_
    refine x_val rfl rfl rfl (v_assign rfl) ?_
    refine x_val rfl rfl rfl (v_assign rfl) ?_
    refine x_end ?_
    refine t_norm ?_
    refine w_ret ?_
    refine t_ret ?_
    refine ret3 rfl rfl rfl rfl (fun w' hm => ⟨?_, hm.base (by simp)⟩)
    rw [civ_no ho]; rfl
  · simp only [hb7, hb6, decide_eq_true_eq, decide_eq_false_iff_not, Bool.and_eq_true, Bool.or_eq_true, Bool.and_eq_false_iff, Bool.or_eq_false_iff, Bool.not_eq_true', Bool.not_eq_false', ne_eq, Decidable.not_not] at hc7
    have ho : okDay n := by simpa using hc7
    obtain ⟨o1, o2⟩ := id ho
    refine w_skip ?_
    refine t_norm ?_
    refine w_seq ?_
    refine rg_text ?_
    refine x_val rfl rfl rfl (v_move rfl) ?_
    refine x_val rfl rfl rfl (v_subi rfl rfl rfl (by first | omega | (dsimp only; omega))) ?_
    refine x_val rfl rfl rfl (v_muli rfl rfl rfl (by first | omega | (dsimp only; omega))) ?_
    refine x_val rfl rfl rfl (v_quoi (c := (n + 719162) * 400 / 146097) rfl rfl (by decide) (by rw [Int.tdiv_eq_ediv_of_nonneg (by omega)]; congr 2) (by omega)) ?_
    refine x_val rfl rfl rfl (v_addi rfl rfl rfl (by first | omega | (dsimp only; omega))) ?_
    refine x_val rfl rfl rfl (v_assign rfl) ?_
    refine x_end ?_
    refine t_norm ?_
    refine w_seq ?_
    refine w_block ?_
    refine w_loop (σ := Int) (fun y => 1 ≤ y ∧ y ≤ 10001) (fun y => [(0, Value.int .i64 n), (2, Value.int .i64 y)]) (fun y => []) (fun y => [(w, fun _ => True)]) (fun y => y.toNat) (((n + 719162) * 400 / 146097 + 1)) (⟨by omega, by omega⟩) (l_start (by repeat (first | exact Sub.nil | refine Sub.cons rfl ?_)) (fun _ h => h)) ?_
    rintro y ⟨h1, h2⟩
    refine w_seq ?_
    refine w_seq ?_
    refine rg_text ?_
    refine x_val rfl rfl rfl (v_move rfl) ?_
    refine x_callv rfl rfl rfl Tryd.func34 (by kernel_rfl) rfl (fun w1 hw1 => c34 _ w1 ⟨h1, h2⟩) ?_
    refine x_val rfl rfl rfl (v_move rfl) ?_
    refine x_bool rfl rfl rfl (v_gtr rfl rfl) ?_
    intro b16 hb16
    refine x_end ?_
    refine t_norm ?_
    refine w_cond rfl (fun hc16 => ?_) (fun hc16 => ?_)
    · simp only [hb16, decide_eq_true_eq, decide_eq_false_iff_not, Bool.and_eq_true, Bool.or_eq_true, Bool.and_eq_false_iff, Bool.or_eq_false_iff, Bool.not_eq_true', Bool.not_eq_false', ne_eq, Decidable.not_not] at hc16
      have hy2 : 2 ≤ y := by rcases Int.lt_or_le y 2 with hl | hl; (· obtain rfl : y = 1 := (by omega); rw [NY_first] at hc16; omega); exact hl
      refine w_skip ?_
      refine t_norm ?_
      refine w_block ?_
      refine rg_text ?_
      refine x_val rfl rfl rfl (v_move rfl) ?_
      refine x_val rfl rfl rfl (v_subi rfl rfl rfl (by first | omega | (dsimp only; omega))) ?_
      refine x_val rfl rfl rfl (v_assign rfl) ?_
      refine x_end ?_
      refine b_norm ?_
      exact l_norm (y - 1) ⟨by omega, by omega⟩ (by omega) (by repeat (first | exact Sub.nil | refine Sub.cons rfl ?_)) (fun _ h => h)
    · simp only [hb16, decide_eq_true_eq, decide_eq_false_iff_not, Bool.and_eq_true, Bool.or_eq_true, Bool.and_eq_false_iff, Bool.or_eq_false_iff, Bool.not_eq_true', Bool.not_eq_false', ne_eq, Decidable.not_not] at hc16
      refine w_exit ?_
      refine t_exit ?_
      refine t_exit ?_
      refine b_hit ?_
      refine t_norm ?_
      refine w_seq ?_
      refine w_block ?_
      refine w_loop (σ := Int) (fun y => 1 ≤ y ∧ NY y ≤ n) (fun y => [(0, Value.int .i64 n), (2, Value.int .i64 y)]) (fun y => []) (fun y => [(w, fun _ => True)]) (fun y => (10000 - y).toNat) (y) (⟨h1, by omega⟩) (l_start (by repeat (first | exact Sub.nil | refine Sub.cons rfl ?_)) (fun _ h => h)) ?_
      rintro y ⟨h1, h2⟩
      have h3 := year_ub ho h2
      refine w_seq ?_
      refine w_seq ?_
      refine rg_text ?_
      refine x_val rfl rfl rfl (v_move rfl) ?_
      refine x_val rfl rfl rfl (v_addi rfl rfl rfl (by first | omega | (dsimp only; omega))) ?_
      refine x_callv rfl rfl rfl Tryd.func34 (by kernel_rfl) rfl (fun w1 hw1 => c34 _ w1 ⟨by omega, by omega⟩) ?_
      refine x_val rfl rfl rfl (v_move rfl) ?_
      refine x_bool rfl rfl rfl (v_leq rfl rfl) ?_
      intro b23 hb23
      refine x_end ?_
      refine t_norm ?_
      refine w_cond rfl (fun hc23 => ?_) (fun hc23 => ?_)
      · simp only [hb23, decide_eq_true_eq, decide_eq_false_iff_not, Bool.and_eq_true, Bool.or_eq_true, Bool.and_eq_false_iff, Bool.or_eq_false_iff, Bool.not_eq_true', Bool.not_eq_false', ne_eq, Decidable.not_not] at hc23
        refine w_skip ?_
        refine t_norm ?_
        refine w_block ?_
        refine rg_text ?_
        refine x_val rfl rfl rfl (v_move rfl) ?_
        refine x_val rfl rfl rfl (v_addi rfl rfl rfl (by first | omega | (dsimp only; omega))) ?_
        refine x_val rfl rfl rfl (v_assign rfl) ?_
        refine x_end ?_
        refine b_norm ?_
        exact l_norm (y + 1) ⟨by omega, by omega⟩ (by omega) (by repeat (first | exact Sub.nil | refine Sub.cons rfl ?_)) (fun _ h => h)
      · simp only [hb23, decide_eq_true_eq, decide_eq_false_iff_not, Bool.and_eq_true, Bool.or_eq_true, Bool.and_eq_false_iff, Bool.or_eq_false_iff, Bool.not_eq_true', Bool.not_eq_false', ne_eq, Decidable.not_not] at hc23
        have hnn := NY_next y
        have hr := NY_rng (y := y) ⟨h1, by omega⟩
        refine w_exit ?_
        refine t_exit ?_
        refine t_exit ?_
        refine b_hit ?_
        refine t_norm ?_
        refine w_seq ?_
        refine rg_text ?_
        refine x_val rfl rfl rfl (v_move rfl) ?_
        refine x_val rfl rfl rfl (v_move rfl) ?_
        refine x_callv rfl rfl rfl Tryd.func34 (by kernel_rfl) rfl (fun w1 hw1 => c34 _ w1 ⟨h1, by omega⟩) ?_
        refine x_val rfl rfl rfl (v_subi rfl rfl rfl (by first | omega | (dsimp only; omega))) ?_
        refine x_val rfl rfl rfl (v_addi rfl rfl rfl (by first | omega | (dsimp only; omega))) ?_
        refine x_val rfl rfl rfl (v_assign rfl) ?_
        refine x_end ?_
        refine t_norm ?_
        refine w_seq ?_
        refine w_seq ?_
        refine rg_text ?_
        refine x_val rfl rfl rfl (v_assign rfl) ?_
        refine x_end ?_
        refine t_norm ?_
        refine w_block ?_
        refine w_loop (σ := Nat × Int) (fun x => 1 ≤ x.1 ∧ x.1 ≤ 12 ∧ 1 ≤ x.2 + 0 ∧ x.2 + 0 + moff y (x.1 - 1) = n - NY y + 1) (fun x => [(0, Value.int .i64 n), (2, Value.int .i64 y), (3, Value.int .i64 (x.1 : Nat)), (4, Value.int .i64 x.2)]) (fun x => []) (fun x => [(w, fun _ => True)]) (fun x => 12 - x.1) ((1, n - NY y + 1)) (⟨Nat.le_refl _, by omega, by dsimp only; omega, by dsimp only; have : moff y (1 - 1) = 0 := rfl; omega⟩) (l_start (by repeat (first | exact Sub.nil | refine Sub.cons rfl ?_)) (fun _ h => h)) ?_
        rintro ⟨m, d⟩ ⟨hm1, hm2, hd, he⟩
        refine w_state ([(0, Value.int .i64 n), (2, Value.int .i64 y), (3, Value.int .i64 (m : Nat)), (4, Value.int .i64 d)]) ([]) ([(w, fun _ => True)]) ?_
        dsimp only at hm1 hm2 hd he
        have hmo := moff_ub (y := y) (k := m - 1) (by omega)
        have hmn := moff_nonneg y (m - 1)
        have hml := mlen_rng y (m : Int)
        have hmp := moff_pred y hm1
        have hm12 := moff_le (y := y) hm2
        refine w_seq ?_
        refine w_seq ?_
        refine rg_text ?_
        refine x_val rfl rfl rfl (v_move rfl) ?_
        refine x_val rfl rfl rfl (v_move rfl) ?_
        refine x_val rfl rfl rfl (v_move rfl) ?_
        refine x_callv rfl rfl rfl Tryd.func33 (by kernel_rfl) rfl (fun w1 hw1 => c33 _ _ w1 ⟨by omega, by omega⟩) ?_
        refine x_bool rfl rfl rfl (v_gtr rfl rfl) ?_
        intro b35 hb35
        refine x_end ?_
        refine t_norm ?_
        refine w_cond rfl (fun hc35 => ?_) (fun hc35 => ?_)
        · simp only [hb35, decide_eq_true_eq, decide_eq_false_iff_not, Bool.and_eq_true, Bool.or_eq_true, Bool.and_eq_false_iff, Bool.or_eq_false_iff, Bool.not_eq_true', Bool.not_eq_false', ne_eq, Decidable.not_not] at hc35
          have hm11 : m < 12 := by rcases Nat.lt_or_ge m 12 with hl | hl; (· exact hl); obtain rfl : m = 12 := (by omega); omega
          refine w_skip ?_
          refine t_norm ?_
          refine w_seq ?_
          refine w_block ?_
          refine rg_text ?_
          refine x_val rfl rfl rfl (v_move rfl) ?_
          refine x_val rfl rfl rfl (v_move rfl) ?_
          refine x_val rfl rfl rfl (v_move rfl) ?_
          refine x_callv rfl rfl rfl Tryd.func33 (by kernel_rfl) rfl (fun w1 hw1 => c33 _ _ w1 ⟨by omega, by omega⟩) ?_
          refine x_val rfl rfl rfl (v_subi rfl rfl rfl (by first | omega | (dsimp only; omega))) ?_
          refine x_val rfl rfl rfl (v_assign rfl) ?_
          refine x_end ?_
          refine b_norm ?_
          refine t_norm ?_
          refine rg_text ?_
          refine x_val rfl rfl rfl (v_move rfl) ?_
          refine x_val rfl rfl rfl (v_addi rfl rfl rfl (by first | omega | (dsimp only; omega))) ?_
          refine x_val rfl rfl rfl (v_assign rfl) ?_
          refine x_end ?_
          exact l_norm (m + 1, d - mlen y m) ⟨by dsimp only; omega, by dsimp only; omega, by dsimp only; omega, by dsimp only; rw [Nat.add_sub_cancel, hmp]; omega⟩ (by simp only; omega) (by repeat (first | exact Sub.nil | refine Sub.cons rfl ?_)) (fun _ h => h)
        · simp only [hb35, decide_eq_true_eq, decide_eq_false_iff_not, Bool.and_eq_true, Bool.or_eq_true, Bool.and_eq_false_iff, Bool.or_eq_false_iff, Bool.not_eq_true', Bool.not_eq_false', ne_eq, Decidable.not_not] at hc35
          refine w_exit ?_
          refine t_exit ?_
          refine t_exit ?_
          refine b_hit ?_
          refine t_norm ?_
          refine w_seq ?_
          refine rg_text ?_
          refine x_val rfl rfl rfl (v_move rfl) ?_
          refine x_val rfl rfl rfl (v_move rfl) ?_
          refine x_val rfl rfl rfl (v_move rfl) ?_
          refine x_val rfl rfl rfl (v_assign rfl) ?_
          refine x_val rfl rfl rfl (v_assign rfl) ?_
          refine x_val rfl rfl rfl (v_assign rfl) ?_
          refine x_end ?_
          refine t_norm ?_
          refine w_ret ?_
          refine ret3 rfl rfl rfl rfl (fun w' hm => ⟨?_, hm.base (by simp)⟩)
          rw [civ_of (d := d) ho h1 ⟨hm1, hm2⟩ ⟨by omega, by omega⟩ (by omega)]

theorem NY_366 {y : Int} (h : 1 ≤ y) : NY y ≤ -719162 + 366 * (y - 1) := by unfold NY; omega
set_option maxRecDepth 100000 in
theorem c16 (n : Int) (w : World) (hn : in64 n) :
    Calls Tryd.prog 16 #[.int .i64 n] w fun e w' => e = .returned (.tuple #[.int .i64 (civ n).1, .int .i64 (civ n).2.1, .int .i64 (civ n).2.2]) ∧ Later w w' := by
  refine enter (vs := [.int .i64 n]) Tryd.func16 rfl Tryd.ntmps16 rfl ?_
  refine w_seq ?_
  refine rg_text ?_
  refine x_val rfl rfl rfl (v_assign rfl) ?_
  refine x_val rfl rfl rfl (v_assign rfl) ?_
  refine x_val rfl rfl rfl (v_assign rfl) ?_
  refine x_end ?_
  refine t_norm ?_
  refine w_seq ?_
  refine w_seq ?_
  refine rg_text ?_
  refine x_val rfl rfl rfl (v_move rfl) ?_
  refine x_bool rfl rfl rfl (v_lss rfl rfl) ?_
  intro b9 hb9
  refine x_val rfl rfl rfl (v_move rfl) ?_
  refine x_if [] rfl rfl rfl rfl rfl (fun hg => by obtain ⟨hg0, _⟩ := hg; subst hg0; (try simp only [List.cons_append, List.nil_append, gvl_nil, gvl_t, gvl_f]); exact v_move rfl) ?_
  refine x_ifb [] rfl rfl rfl rfl rfl (fun hg => by obtain ⟨hg0, _⟩ := hg; subst hg0; (try simp only [List.cons_append, List.nil_append, gvl_nil, gvl_t, gvl_f]); exact v_gtr rfl rfl) ?_
  intro b12 hb12
  refine x_bool rfl rfl rfl (v_or rfl rfl) ?_
  intro b13 hb13
  refine x_end ?_
  refine t_norm ?_
  refine w_cond rfl (fun hc13 => ?_) (fun hc13 => ?_)
  · simp only [hb13, hb12, hb9, decide_eq_true_eq, decide_eq_false_iff_not, Bool.and_eq_true, Bool.or_eq_true, Bool.and_eq_false_iff, Bool.or_eq_false_iff, Bool.not_eq_true', Bool.not_eq_false', ne_eq, Decidable.not_not] at hc13
    have ho : ¬okDay n := by unfold okDay; omega
    refine w_seq ?_
    refine rg_text ?_
    refine x_val rfl rfl rfl (v_assign rfl) ?_
    refine x_val rfl rfl rfl (v_assign rfl) ?_
    refine x_val rfl rfl rfl (v_assign rfl) ?_
    refine x_end ?_
    refine t_norm ?_
    refine w_ret ?_
    refine t_ret ?_
    refine ret3 rfl rfl rfl rfl (fun w' hm => ⟨?_, hm.base (by simp)⟩)
    rw [civ_no ho]; rfl
  · simp only [hb13, hb12, hb9, decide_eq_true_eq, decide_eq_false_iff_not, Bool.and_eq_true, Bool.or_eq_true, Bool.and_eq_false_iff, Bool.or_eq_false_iff, Bool.not_eq_true', Bool.not_eq_false', ne_eq, Decidable.not_not] at hc13
    have ho : okDay n := by unfold okDay; omega
    obtain ⟨o1, o2⟩ := id ho
    refine w_skip ?_
    refine t_norm ?_
    refine w_seq ?_
    refine rg_text ?_
    refine x_val rfl rfl rfl (v_move rfl) ?_
    refine x_val rfl rfl rfl (v_subi rfl rfl rfl (by first | omega | (dsimp only; omega))) ?_
    refine x_val rfl rfl rfl (v_assign rfl) ?_
    refine x_end ?_
    refine t_norm ?_
    refine w_seq ?_
    refine rg_text ?_
    refine x_val rfl rfl rfl (v_move rfl) ?_
    refine x_val rfl rfl rfl (v_quoi (c := (n + 719162) / 366) rfl rfl (by decide) (by rw [Int.tdiv_eq_ediv_of_nonneg (by omega)]; congr 1) (by omega)) ?_
    refine x_val rfl rfl rfl (v_addi rfl rfl rfl (by first | omega | (dsimp only; omega))) ?_
    refine x_val rfl rfl rfl (v_assign rfl) ?_
    refine x_end ?_
    refine t_norm ?_
    refine w_seq ?_
    refine w_block ?_
    refine w_loop (σ := Int) (fun y => 1 ≤ y ∧ NY y ≤ n) (fun y => [(5, Value.int .i64 (n - -719162)), (6, Value.int .i64 y)]) (fun y => []) (fun y => [(w, fun _ => True)]) (fun y => (10000 - y).toNat) (((n + 719162) / 366 + 1)) (⟨by omega, by have := NY_366 (y := (n + 719162) / 366 + 1) (by omega); omega⟩) (l_start (by repeat (first | exact Sub.nil | refine Sub.cons rfl ?_)) (fun _ h => h)) ?_
    rintro y ⟨h1, h2⟩
    have h3 := year_ub ho h2
    refine w_seq ?_
    refine w_seq ?_
    refine rg_text ?_
    refine x_val rfl rfl rfl (v_move rfl) ?_
    refine x_callv rfl rfl rfl Tryd.func36 (by kernel_rfl) rfl (fun w1 hw1 => c36 _ w1 ⟨by omega, by omega⟩) ?_
    refine x_val rfl rfl rfl (v_move rfl) ?_
    refine x_bool rfl rfl rfl (v_leq rfl rfl) ?_
    intro b22 hb22
    refine x_end ?_
    refine t_norm ?_
    refine w_cond rfl (fun hc22 => ?_) (fun hc22 => ?_)
    · simp only [hb22, decide_eq_true_eq, decide_eq_false_iff_not, Bool.and_eq_true, Bool.or_eq_true, Bool.and_eq_false_iff, Bool.or_eq_false_iff, Bool.not_eq_true', Bool.not_eq_false', ne_eq, Decidable.not_not] at hc22
      refine w_skip ?_
      refine t_norm ?_
      refine w_block ?_
      refine rg_text ?_
      refine x_val rfl rfl rfl (v_move rfl) ?_
      refine x_val rfl rfl rfl (v_addi rfl rfl rfl (by first | omega | (dsimp only; omega))) ?_
      refine x_val rfl rfl rfl (v_assign rfl) ?_
      refine x_end ?_
      refine b_norm ?_
      exact l_norm (y + 1) ⟨by omega, by omega⟩ (by omega) (by repeat (first | exact Sub.nil | refine Sub.cons rfl ?_)) (fun _ h => h)
    · simp only [hb22, decide_eq_true_eq, decide_eq_false_iff_not, Bool.and_eq_true, Bool.or_eq_true, Bool.and_eq_false_iff, Bool.or_eq_false_iff, Bool.not_eq_true', Bool.not_eq_false', ne_eq, Decidable.not_not] at hc22
      have hnn := NY_next y
      have hr := NY_rng (y := y) ⟨h1, by omega⟩
      refine w_exit ?_
      refine t_exit ?_
      refine t_exit ?_
      refine b_hit ?_
      refine t_norm ?_
      refine w_seq ?_
      refine rg_text ?_
      refine x_val rfl rfl rfl (v_move rfl) ?_
      refine x_val rfl rfl rfl (v_move rfl) ?_
      refine x_val rfl rfl rfl (v_subi rfl rfl rfl (by first | omega | (dsimp only; omega))) ?_
      refine x_callv rfl rfl rfl Tryd.func36 (by kernel_rfl) rfl (fun w1 hw1 => c36 _ w1 ⟨by omega, by omega⟩) ?_
      refine x_val rfl rfl rfl (v_subi (c := n - NY y) rfl rfl (by rw [show y - 1 + 1 = y by omega]; omega) (by omega)) ?_
      refine x_val rfl rfl rfl (v_assign rfl) ?_
      refine x_end ?_
      refine t_norm ?_
      refine w_seq ?_
      refine rg_text ?_
      refine x_val rfl rfl rfl (v_assign rfl) ?_
      refine x_end ?_
      refine t_norm ?_
      refine w_seq ?_
      refine w_block ?_
      refine w_loop (σ := Nat × Int) (fun x => 1 ≤ x.1 ∧ x.1 ≤ 12 ∧ 1 ≤ x.2 + 1 ∧ x.2 + 1 + moff y (x.1 - 1) = n - NY y + 1) (fun x => [(6, Value.int .i64 y), (7, Value.int .i64 (x.1 : Nat)), (5, Value.int .i64 x.2)]) (fun x => []) (fun x => [(w, fun _ => True)]) (fun x => 12 - x.1) ((1, n - NY y)) (⟨Nat.le_refl _, by omega, by dsimp only; omega, by dsimp only; have : moff y (1 - 1) = 0 := rfl; omega⟩) (l_start (by repeat (first | exact Sub.nil | refine Sub.cons rfl ?_)) (fun _ h => h)) ?_
      rintro ⟨m, d⟩ ⟨hm1, hm2, hd, he⟩
      refine w_state ([(6, Value.int .i64 y), (7, Value.int .i64 (m : Nat)), (5, Value.int .i64 d)]) ([]) ([(w, fun _ => True)]) ?_
      dsimp only at hm1 hm2 hd he
      have hmo := moff_ub (y := y) (k := m - 1) (by omega)
      have hmn := moff_nonneg y (m - 1)
      have hml := mlen_rng y (m : Int)
      have hmp := moff_pred y hm1
      have hm12 := moff_le (y := y) hm2
      refine w_seq ?_
      refine w_seq ?_
      refine rg_text ?_
      refine x_val rfl rfl rfl (v_move rfl) ?_
      refine x_val rfl rfl rfl (v_move rfl) ?_
      refine x_val rfl rfl rfl (v_move rfl) ?_
      refine x_callv rfl rfl rfl Tryd.func35 (by kernel_rfl) rfl (fun w1 hw1 => c35 _ _ w1 ⟨by omega, by omega⟩) ?_
      refine x_bool rfl rfl rfl (v_geq rfl rfl) ?_
      intro b34 hb34
      refine x_end ?_
      refine t_norm ?_
      refine w_cond rfl (fun hc34 => ?_) (fun hc34 => ?_)
      · simp only [hb34, decide_eq_true_eq, decide_eq_false_iff_not, Bool.and_eq_true, Bool.or_eq_true, Bool.and_eq_false_iff, Bool.or_eq_false_iff, Bool.not_eq_true', Bool.not_eq_false', ne_eq, Decidable.not_not] at hc34
        have hm11 : m < 12 := by rcases Nat.lt_or_ge m 12 with hl | hl; (· exact hl); obtain rfl : m = 12 := (by omega); omega
        refine w_skip ?_
        refine t_norm ?_
        refine w_block ?_
        refine w_seq ?_
        refine rg_text ?_
        refine x_val rfl rfl rfl (v_move rfl) ?_
        refine x_val rfl rfl rfl (v_move rfl) ?_
        refine x_val rfl rfl rfl (v_move rfl) ?_
        refine x_callv rfl rfl rfl Tryd.func35 (by kernel_rfl) rfl (fun w1 hw1 => c35 _ _ w1 ⟨by omega, by omega⟩) ?_
        refine x_val rfl rfl rfl (v_subi rfl rfl rfl (by first | omega | (dsimp only; omega))) ?_
        refine x_val rfl rfl rfl (v_assign rfl) ?_
        refine x_end ?_
        refine t_norm ?_
        refine rg_text ?_
        refine x_val rfl rfl rfl (v_move rfl) ?_
        refine x_val rfl rfl rfl (v_addi rfl rfl rfl (by first | omega | (dsimp only; omega))) ?_
        refine x_val rfl rfl rfl (v_assign rfl) ?_
        refine x_end ?_
        refine b_norm ?_
        exact l_norm (m + 1, d - mlen y m) ⟨by dsimp only; omega, by dsimp only; omega, by dsimp only; omega, by dsimp only; rw [Nat.add_sub_cancel, hmp]; omega⟩ (by simp only; omega) (by repeat (first | exact Sub.nil | refine Sub.cons rfl ?_)) (fun _ h => h)
      · simp only [hb34, decide_eq_true_eq, decide_eq_false_iff_not, Bool.and_eq_true, Bool.or_eq_true, Bool.and_eq_false_iff, Bool.or_eq_false_iff, Bool.not_eq_true', Bool.not_eq_false', ne_eq, Decidable.not_not] at hc34
        refine w_exit ?_
        refine t_exit ?_
        refine t_exit ?_
        refine b_hit ?_
        refine t_norm ?_
        refine w_seq ?_
        refine rg_text ?_
        refine x_val rfl rfl rfl (v_move rfl) ?_
        refine x_val rfl rfl rfl (v_move rfl) ?_
        refine x_val rfl rfl rfl (v_move rfl) ?_
        refine x_val rfl rfl rfl (v_addi rfl rfl rfl (by first | omega | (dsimp only; omega))) ?_
        refine x_val rfl rfl rfl (v_assign rfl) ?_
        refine x_val rfl rfl rfl (v_assign rfl) ?_
        refine x_val rfl rfl rfl (v_assign rfl) ?_
        refine x_end ?_
        refine t_norm ?_
        refine w_ret ?_
        refine ret3 rfl rfl rfl rfl (fun w' hm => ⟨?_, hm.base (by simp)⟩)
        rw [civ_of (d := d + 1) ho h1 ⟨hm1, hm2⟩ ⟨by omega, by omega⟩ (by omega)]

end Go.Proofs.YtffdbbcmibamjaaDoor

namespace Go.Proofs.YtffdbbcmibamjaaDoor
open Go.RowKit Go.PK
set_option linter.unusedVariables false
set_option linter.unusedSimpArgs false
set_option maxRecDepth 100000 in
theorem c62 {v : Value} {ds : List Int} {D : Nat → Prop} (n : Int) (w : World) (hds : sliceRd tyI D w v ds) :
    Calls Tryd.prog 62 #[v, .int .i64 n] w fun e w' => e = .returned (.int .i64 (fidx (fun x => decide (n = x)) ds)) ∧ Later w w' := by
  obtain ⟨A, c, rfl, hlc, hmx, hA⟩ := id hds
  refine enter (vs := [.slice A ds.length c, .int .i64 n]) Tryd.func62 rfl Tryd.ntmps62 rfl ?_
  refine w_seq ?_
  refine rg_text ?_
  refine x_val rfl rfl rfl (v_assign rfl) ?_
  refine x_end ?_
  refine t_norm ?_
  refine w_seq ?_
  refine w_seq ?_
  refine rg_text ?_
  refine x_val rfl rfl rfl (v_move rfl) ?_
  refine x_val rfl rfl rfl (v_len_slice Tryd.underlying26 rfl) ?_
  refine x_val rfl rfl rfl (v_move rfl) ?_
  refine x_end ?_
  refine t_norm ?_
  refine w_block ?_
  refine w_loop (σ := Nat) (fun k => k ≤ ds.length ∧ ∀ j (h : j < ds.length), j < k → decide (n = ds[j]) = false) (fun k => [(0, .slice A ds.length c), (1, Value.int .i64 n), (7, Value.int .i64 ds.length), (8, Value.int .i64 (k : Nat))]) (fun k => []) (fun k => [(w, fun _ => True)]) (fun k => ds.length - k) (0) (⟨Nat.zero_le _, by intros; omega⟩) (l_start (by repeat (first | exact Sub.nil | refine Sub.cons rfl ?_)) (fun _ h => h)) ?_
  rintro k ⟨hk, hno⟩
  refine w_seq ?_
  refine rg_text ?_
  refine x_bool rfl rfl rfl (v_lss rfl rfl) ?_
  intro b9 hb9
  refine x_end ?_
  refine t_norm ?_
  refine w_seq ?_
  refine w_cond rfl (fun hc9 => ?_) (fun hc9 => ?_)
  · simp only [hb9, decide_eq_true_eq, decide_eq_false_iff_not, Bool.and_eq_true, Bool.or_eq_true, Bool.and_eq_false_iff, Bool.or_eq_false_iff, Bool.not_eq_true', Bool.not_eq_false', ne_eq, Decidable.not_not] at hc9
    have hkl : k < ds.length := by omega
    obtain ⟨b0, o0, hA0, hD0, hc0, hin⟩ := int_at hds hkl
    refine w_skip ?_
    refine t_norm ?_
    refine w_seq ?_
    refine w_block ?_
    refine w_seq ?_
    refine rg_text ?_
    refine x_val rfl rfl rfl (v_move rfl) ?_
    refine x_val rfl rfl rfl (v_assign rfl) ?_
    refine x_end ?_
    refine t_norm ?_
    refine w_seq ?_
    refine rg_text ?_
    refine x_val rfl rfl rfl (v_move rfl) ?_
    refine x_val rfl rfl rfl (v_move rfl) ?_
    refine x_val rfl rfl rfl (v_move rfl) ?_
    refine x_val rfl rfl rfl (v_indexAddr Tryd.underlying26 sz3 (congrArg (fun A => some (Value.slice A ds.length c)) hA0) rfl (by first | omega | (dsimp only; omega)) rfl) ?_
    refine x_val rfl rfl rfl (v_load Tryd.underlying3 rfl rfl (at_ro (.head _) trivial (by rw [Nat.mul_one]; exact hc0))) ?_
    refine x_bool rfl rfl rfl (v_eql rfl rfl) ?_
    intro b16 hb16
    refine x_end ?_
    refine t_norm ?_
    refine w_cond rfl (fun hc16 => ?_) (fun hc16 => ?_)
    · simp only [hb16, decide_eq_true_eq, decide_eq_false_iff_not, Bool.and_eq_true, Bool.or_eq_true, Bool.and_eq_false_iff, Bool.or_eq_false_iff, Bool.not_eq_true', Bool.not_eq_false', ne_eq, Decidable.not_not] at hc16
      refine w_seq ?_
      refine rg_text ?_
      refine x_val rfl rfl rfl (v_move rfl) ?_
      refine x_val rfl rfl rfl (v_assign rfl) ?_
      refine x_end ?_
      refine t_norm ?_
      refine w_ret ?_
      refine b_ret ?_
      refine t_ret ?_
      refine t_ret ?_
      refine b_ret ?_
      refine t_ret ?_
      refine ret1 rfl rfl (fun w' hm => ⟨?_, hm.base (by simp)⟩)
      rw [fidx_at hkl (decide_eq_true hc16) hno]
    · simp only [hb16, decide_eq_true_eq, decide_eq_false_iff_not, Bool.and_eq_true, Bool.or_eq_true, Bool.and_eq_false_iff, Bool.or_eq_false_iff, Bool.not_eq_true', Bool.not_eq_false', ne_eq, Decidable.not_not] at hc16
      refine w_skip ?_
      refine b_norm ?_
      refine t_norm ?_
      refine rg_text ?_
      refine x_val rfl rfl rfl (v_addi rfl rfl rfl (by first | omega | (dsimp only; omega))) ?_
      refine x_val rfl rfl rfl (v_move rfl) ?_
      refine x_end ?_
      exact l_norm (k + 1) ⟨by omega, fun j h hjk => by rcases Nat.lt_succ_iff_lt_or_eq.1 hjk with h2 | rfl; (· exact hno j h h2); exact decide_eq_false hc16⟩ (by omega) (by repeat (first | exact Sub.nil | refine Sub.cons rfl ?_)) (fun _ h => h)
  · simp only [hb9, decide_eq_true_eq, decide_eq_false_iff_not, Bool.and_eq_true, Bool.or_eq_true, Bool.and_eq_false_iff, Bool.or_eq_false_iff, Bool.not_eq_true', Bool.not_eq_false', ne_eq, Decidable.not_not] at hc9
    refine w_exit ?_
    refine t_exit ?_
    refine t_exit ?_
    refine b_hit ?_
    refine t_norm ?_
    refine w_seq ?_
    refine rg_text ?_
    refine x_val rfl rfl rfl (v_assign rfl) ?_
    refine x_end ?_
    refine t_norm ?_
    refine w_ret ?_
    refine ret1 rfl rfl (fun w' hm => ⟨?_, hm.base (by simp)⟩)
    rw [fidx_none (fun j h => hno j h (by omega))]
set_option maxRecDepth 100000 in
theorem c53 {v : Value} {ds : List Int} {D : Nat → Prop} (n : Int) (w : World) (hds : sliceRd tyI D w v ds) :
    Calls Tryd.prog 53 #[v, .int .i64 n] w fun e w' => e = .returned (.bool (hasI ds n)) ∧ Later w w' := by
  refine enter (vs := [v, .int .i64 n]) Tryd.func53 rfl Tryd.ntmps53 rfl ?_
  refine w_seq ?_
  refine rg_text ?_
  refine x_val rfl rfl rfl (v_assign rfl) ?_
  refine x_end ?_
  refine t_norm ?_
  refine w_seq ?_
  refine rg_text ?_
  refine x_val rfl rfl rfl (v_move rfl) ?_
  refine x_val rfl rfl rfl (v_move rfl) ?_
  refine x_callv rfl rfl rfl Tryd.func62 (by kernel_rfl) rfl (fun w1 hw1 => c62 _ w1 (hds.keep (Kept.later (hw1.base (by simp))))) ?_
  refine x_bool rfl rfl rfl (v_geq rfl rfl) ?_
  intro b8 hb8
  refine x_val rfl rfl rfl (v_assign rfl) ?_
  refine x_end ?_
  refine t_norm ?_
  refine w_ret ?_
  refine ret1 rfl rfl (fun w' hm => ⟨?_, hm.base (by simp)⟩)
  rw [hb8, Bool.eq_iff_iff.2 (decide_eq_true_iff.trans (fidx_nn _ ds))]; rfl
set_option maxRecDepth 100000 in
theorem c43 {v : Value} {ds : List Int} {D : Nat → Prop} (n : Int) (w : World) (hds : sliceRd tyI D w v ds) :
    Calls Tryd.prog 43 #[v, .int .i64 n] w fun e w' => e = .returned (.bool (hasI ds n)) ∧ Later w w' := by
  refine enter (vs := [v, .int .i64 n]) Tryd.func43 rfl Tryd.ntmps43 rfl ?_
  refine w_seq ?_
  refine rg_text ?_
  refine x_val rfl rfl rfl (v_assign rfl) ?_
  refine x_end ?_
  refine t_norm ?_
  refine w_seq ?_
  refine rg_text ?_
  refine x_val rfl rfl rfl (v_move rfl) ?_
  refine x_val rfl rfl rfl (v_move rfl) ?_
  refine x_callb rfl rfl rfl Tryd.func53 (by kernel_rfl) rfl (fun w1 hw1 => c53 _ w1 (hds.keep (Kept.later (hw1.base (by simp))))) ?_
  intro b7 hb7
  refine x_val rfl rfl rfl (v_assign rfl) ?_
  refine x_end ?_
  refine t_norm ?_
  refine w_ret ?_
  refine ret1 rfl rfl (fun w' hm => ⟨?_, hm.base (by simp)⟩)
  rw [hb7]
set_option maxRecDepth 100000 in
theorem c24 {v : Value} {ds : List Int} {D : Nat → Prop} {wk : List Bool} (n : Int) (w : World) (hds : sliceRd tyI D w v ds) (hwk : wk.length = 7) :
    Calls Tryd.prog 24 #[.agg (calC wk v).toArray, .int .i64 n] w fun e w' => e = .returned (.bool (openP wk ds n)) ∧ Later w w' := by
  obtain ⟨q, hq⟩ : ∃ q : Nat, (n + 3) % 7 = (q : Int) := ⟨((n + 3) % 7).toNat, by omega⟩
  have hql : q < 7 := by omega
  refine enter (vs := [.agg (calC wk v).toArray, .int .i64 n]) Tryd.func24 rfl Tryd.ntmps24 rfl ?_
  refine w_seq ?_
  refine rg_text ?_
  refine x_box rfl rfl rfl rfl ?_
  intro p2
  refine x_val rfl rfl rfl (v_assign rfl) ?_
  refine x_end ?_
  refine t_norm ?_
  refine w_seq ?_
  refine rg_text ?_
  refine x_val rfl rfl rfl (v_move rfl) ?_
  refine x_callb rfl rfl rfl Tryd.func37 (by kernel_rfl) rfl (fun w1 hw1 => c37 _ w1) ?_
  intro b6 hb6
  refine x_val rfl rfl rfl (v_move rfl) ?_
  refine x_if [] rfl rfl rfl rfl rfl (fun hg => by obtain ⟨hg0, _⟩ := hg; subst hg0; (try simp only [List.cons_append, List.nil_append, gvl_nil, gvl_t, gvl_f]); exact v_move rfl) ?_
  refine x_call_if [] rfl rfl rfl rfl rfl Tryd.func17 (by kernel_rfl) (fun hg => by obtain ⟨hg0, _⟩ := hg; subst hg0; (try simp only [List.cons_append, List.nil_append, gvl_nil, gvl_t, gvl_f]); refine ⟨_, rfl, ?_⟩; exact fun w1 hw1 => c17 _ w1) ?_
  refine x_if [] rfl rfl rfl rfl rfl (fun hg => by obtain ⟨hg0, _⟩ := hg; subst hg0; (try simp only [List.cons_append, List.nil_append, gvl_nil, gvl_t, gvl_f]); exact v_fieldAddr (off' := 0) Tryd.underlying38 rfl sz36 (by decide) rfl rfl) ?_
  refine x_if [] rfl rfl rfl rfl rfl (fun hg => by obtain ⟨hg0, _⟩ := hg; subst hg0; (try simp only [List.cons_append, List.nil_append, gvl_nil, gvl_t, gvl_f]); exact v_indexArr (j := q) (off' := q) Tryd.underlying36 sz4 rfl (congrArg (fun z : Int => some (Value.int .i64 z)) hq) (by omega) (by omega)) ?_
  refine x_ifb [] rfl rfl rfl rfl rfl (fun hg => by obtain ⟨hg0, _⟩ := hg; subst hg0; (try simp only [List.cons_append, List.nil_append, gvl_nil, gvl_t, gvl_f]); exact v_load Tryd.underlying4 rfl rfl (at_ownL (vs := calC wk v) (.head _) (calC_wk (by omega)))) ?_
  intro b12 hb12
  refine x_ifb [] rfl rfl rfl rfl rfl (fun hg => by obtain ⟨hg0, _⟩ := hg; subst hg0; (try simp only [List.cons_append, List.nil_append, gvl_nil, gvl_t, gvl_f]); exact v_not rfl) ?_
  intro b13 hb13
  refine x_bool rfl rfl rfl (v_and rfl rfl) ?_
  intro b14 hb14
  refine x_val rfl rfl rfl (v_move rfl) ?_
  refine x_if [] rfl rfl rfl rfl rfl (fun hg => by obtain ⟨hg0, _⟩ := hg; subst hg0; (try simp only [List.cons_append, List.nil_append, gvl_nil, gvl_t, gvl_f]); exact v_fieldAddr (off' := 7) Tryd.underlying38 rfl sz26 (by decide) rfl rfl) ?_
  refine x_if [] rfl rfl rfl rfl rfl (fun hg => by obtain ⟨hg0, _⟩ := hg; subst hg0; (try simp only [List.cons_append, List.nil_append, gvl_nil, gvl_t, gvl_f]); exact v_load Tryd.underlying26 rfl rfl (at_ownL (vs := calC wk v) (.head _) (calC_v hwk))) ?_
  refine x_if [] rfl rfl rfl rfl rfl (fun hg => by obtain ⟨hg0, _⟩ := hg; subst hg0; (try simp only [List.cons_append, List.nil_append, gvl_nil, gvl_t, gvl_f]); exact v_move rfl) ?_
  refine x_call_ifb [] rfl rfl rfl rfl rfl Tryd.func43 (by kernel_rfl) (fun hg => by obtain ⟨hg0, _⟩ := hg; subst hg0; (try simp only [List.cons_append, List.nil_append, gvl_nil, gvl_t, gvl_f]); refine ⟨_, rfl, ?_⟩; exact fun w1 hw1 => c43 _ w1 (hds.keep (Kept.later (hw1.base (by simp))))) ?_
  intro b19 hb19
  refine x_ifb [] rfl rfl rfl rfl rfl (fun hg => by obtain ⟨hg0, _⟩ := hg; subst hg0; (try simp only [List.cons_append, List.nil_append, gvl_nil, gvl_t, gvl_f]); exact v_not rfl) ?_
  intro b20 hb20
  refine x_bool rfl rfl rfl (v_and rfl rfl) ?_
  intro b21 hb21
  refine x_val rfl rfl rfl (v_assign rfl) ?_
  refine x_end ?_
  refine t_norm ?_
  refine w_ret ?_
  refine ret1 rfl rfl (fun w' hm => ⟨?_, hm.base (by simp)⟩)
  rw [hb21, hb20, hb19, hb14, hb13, hb12, hb6]; unfold openP; rw [hq, Int.toNat_natCast]

end Go.Proofs.YtffdbbcmibamjaaDoor

namespace Go.Proofs.YtffdbbcmibamjaaDoor
open Go.RowKit Go.PK
set_option linter.unusedVariables false
set_option linter.unusedSimpArgs false

theorem rightTo_succ {ds : List Int} {k : Nat} (hk : k < ds.length) (h : rightTo ds k) (h1 : okDay ds[k]) (h2 : ∀ h0 : 0 < k, ds[k - 1] < ds[k]) : rightTo ds (k + 1) := fun j hj hjk => by
  rcases Nat.lt_succ_iff_lt_or_eq.1 hjk with h3 | rfl
  · exact h j hj h3
  · exact ⟨h1, h2⟩
set_option maxRecDepth 100000 in
theorem c29 {v : Value} {ds : List Int} {D : Nat → Prop} {wk : List Bool} (w : World) (hds : sliceRd tyI D w v ds) (hwk : wk.length = 7) :
    Calls Tryd.prog 29 #[.agg (calC wk v).toArray] w fun e w' => e = .returned (.bool (rightP ds)) ∧ Later w w' := by
  obtain ⟨A, c, rfl, hlc, hmx, hA⟩ := id hds
  refine enter (vs := [.agg (calC wk (.slice A ds.length c)).toArray]) Tryd.func29 rfl Tryd.ntmps29 rfl ?_
  refine w_seq ?_
  refine rg_text ?_
  refine x_box rfl rfl rfl rfl ?_
  intro p1
  refine x_val rfl rfl rfl (v_assign rfl) ?_
  refine x_end ?_
  refine t_norm ?_
  refine w_seq ?_
  refine w_seq ?_
  refine rg_text ?_
  refine x_val rfl rfl rfl (v_fieldAddr (off' := 7) Tryd.underlying38 rfl sz26 (by decide) rfl rfl) ?_
  refine x_val rfl rfl rfl (v_load Tryd.underlying26 rfl rfl (at_ownL (vs := calC wk (.slice A ds.length c)) (.head _) (calC_v hwk))) ?_
  refine x_val rfl rfl rfl (v_len_slice Tryd.underlying26 rfl) ?_
  refine x_val rfl rfl rfl (v_move rfl) ?_
  refine x_end ?_
  refine t_norm ?_
  refine w_block ?_
  refine w_loop (σ := Nat) (fun k => k ≤ ds.length ∧ rightTo ds k) (fun k => [(1, .pointer (some ⟨p1, 0, none⟩)), (6, .slice A ds.length c), (7, Value.int .i64 ds.length), (8, Value.int .i64 (k : Nat))]) (fun k => [(p1, Obj.cells (calC wk (.slice A ds.length c)).toArray 38)]) (fun k => [(w, fun _ => True)]) (fun k => ds.length - k) (0) (⟨Nat.zero_le _, fun j h hj => by omega⟩) (l_start (by repeat (first | exact Sub.nil | refine Sub.cons rfl ?_)) (fun _ h => h)) ?_
  rintro k ⟨hk, hr⟩
  refine w_seq ?_
  refine rg_text ?_
  refine x_bool rfl rfl rfl (v_lss rfl rfl) ?_
  intro b9 hb9
  refine x_end ?_
  refine t_norm ?_
  refine w_seq ?_
  refine w_cond rfl (fun hc9 => ?_) (fun hc9 => ?_)
  · simp only [hb9, decide_eq_true_eq, decide_eq_false_iff_not, Bool.and_eq_true, Bool.or_eq_true, Bool.and_eq_false_iff, Bool.or_eq_false_iff, Bool.not_eq_true', Bool.not_eq_false', ne_eq, Decidable.not_not] at hc9
    have hkl : k < ds.length := by omega
    obtain ⟨b0, o0, hA0, hD0, hc0, hin⟩ := int_at hds hkl
    obtain ⟨b1, o1, hA1, hD1, hc1, hin1⟩ := int_at hds (show k - 1 < ds.length by omega)
    refine w_skip ?_
    refine t_norm ?_
    refine w_seq ?_
    refine w_block ?_
    refine w_seq ?_
    refine rg_text ?_
    refine x_val rfl rfl rfl (v_move rfl) ?_
    refine x_val rfl rfl rfl (v_indexAddr Tryd.underlying26 sz3 (congrArg (fun A => some (Value.slice A ds.length c)) hA0) rfl (by first | omega | (dsimp only; omega)) rfl) ?_
    refine x_val rfl rfl rfl (v_load Tryd.underlying3 rfl rfl (at_ro (.head _) trivial (by rw [Nat.mul_one]; exact hc0))) ?_
    refine x_val rfl rfl rfl (v_assign rfl) ?_
    refine x_val rfl rfl rfl (v_assign rfl) ?_
    refine x_end ?_
    refine t_norm ?_
    refine w_seq ?_
    refine rg_text ?_
    refine x_val rfl rfl rfl (v_move rfl) ?_
    refine x_callb rfl rfl rfl Tryd.func37 (by kernel_rfl) rfl (fun w1 hw1 => c37 _ w1) ?_
    intro b14 hb14
    refine x_bool rfl rfl rfl (v_not rfl) ?_
    intro b15 hb15
    refine x_val rfl rfl rfl (v_move rfl) ?_
    refine x_if [] rfl rfl rfl rfl rfl (fun hg => by obtain ⟨hg0, _⟩ := hg; subst hg0; (try simp only [List.cons_append, List.nil_append, gvl_nil, gvl_t, gvl_f]); exact v_move rfl) ?_
    refine x_ifb [] rfl rfl rfl rfl rfl (fun hg => by obtain ⟨hg0, _⟩ := hg; subst hg0; (try simp only [List.cons_append, List.nil_append, gvl_nil, gvl_t, gvl_f]); exact v_gtr rfl rfl) ?_
    intro b18 hb18
    refine x_if [] rfl rfl rfl rfl rfl (fun hg => by obtain ⟨hg0, _⟩ := hg; subst hg0; (try simp only [List.cons_append, List.nil_append, gvl_nil, gvl_t, gvl_f]); exact v_move rfl) ?_
    refine x_if [(b15, false)] rfl rfl rfl rfl rfl (fun hg => by obtain ⟨hg0, hg1, _⟩ := hg; subst hg0; subst hg1; (try simp only [List.cons_append, List.nil_append, gvl_nil, gvl_t, gvl_f]); exact v_move rfl) ?_
    refine x_if [(b15, false)] rfl rfl rfl rfl rfl (fun hg => by obtain ⟨hg0, hg1, _⟩ := hg; subst hg0; subst hg1; (try simp only [List.cons_append, List.nil_append, gvl_nil, gvl_t, gvl_f]); exact v_fieldAddr (off' := 7) Tryd.underlying38 rfl sz26 (by decide) rfl rfl) ?_
    refine x_if [(b15, false)] rfl rfl rfl rfl rfl (fun hg => by obtain ⟨hg0, hg1, _⟩ := hg; subst hg0; subst hg1; (try simp only [List.cons_append, List.nil_append, gvl_nil, gvl_t, gvl_f]); exact v_load Tryd.underlying26 rfl rfl (at_ownL (vs := calC wk (.slice A ds.length c)) (.head _) (calC_v hwk))) ?_
    refine x_if [(b15, false)] rfl rfl rfl rfl rfl (fun hg => by obtain ⟨hg0, hg1, _⟩ := hg; subst hg0; subst hg1; (try simp only [List.cons_append, List.nil_append, gvl_nil, gvl_t, gvl_f]); exact v_move rfl) ?_
    refine x_if [(b15, false)] rfl rfl rfl rfl rfl (fun hg => by obtain ⟨hg0, hg1, _⟩ := hg; subst hg0; subst hg1; (try simp only [List.cons_append, List.nil_append, gvl_nil, gvl_t, gvl_f]); exact v_subi rfl rfl rfl (by first | omega | (dsimp only; omega))) ?_
    refine x_if [(b15, false)] rfl rfl rfl rfl rfl (fun hg => by obtain ⟨hg0, hg1, _⟩ := hg; subst hg0; subst hg1; (try simp only [List.cons_append, List.nil_append, gvl_nil, gvl_t, gvl_f]); have hk0 := of_decide_eq_true hb18.symm; exact v_indexAddr (j := k - 1) Tryd.underlying26 sz3 (congrArg (fun A => some (Value.slice A ds.length c)) hA1) (congrArg (fun z : Int => some (Value.int .i64 z)) (show (k : Int) - 1 = ((k - 1 : Nat) : Int) by omega)) (by omega) rfl) ?_
    refine x_if [(b15, false)] rfl rfl rfl rfl rfl (fun hg => by obtain ⟨hg0, hg1, _⟩ := hg; subst hg0; subst hg1; (try simp only [List.cons_append, List.nil_append, gvl_nil, gvl_t, gvl_f]); exact v_load Tryd.underlying3 rfl rfl (at_ro (.head _) trivial (by rw [Nat.mul_one]; exact hc1))) ?_
    refine x_ifb [(b15, false)] rfl rfl rfl rfl rfl (fun hg => by obtain ⟨hg0, hg1, _⟩ := hg; subst hg0; subst hg1; (try simp only [List.cons_append, List.nil_append, gvl_nil, gvl_t, gvl_f]); exact v_leq rfl rfl) ?_
    intro b27 hb27
    refine x_ifb [] rfl rfl rfl rfl rfl (fun hg => by obtain ⟨hg0, _⟩ := hg; subst hg0; (try simp only [List.cons_append, List.nil_append, gvl_nil, gvl_t, gvl_f]); exact v_and rfl rfl) ?_
    intro b28 hb28
    refine x_bool rfl rfl rfl (v_or rfl rfl) ?_
    intro b29 hb29
    refine x_end ?_
    refine t_norm ?_
    refine w_cond rfl (fun hc29 => ?_) (fun hc29 => ?_)
    · simp only [hb29, hb28, hb27, hb18, hb15, hb14, decide_eq_true_eq, decide_eq_false_iff_not, Bool.and_eq_true, Bool.or_eq_true, Bool.and_eq_false_iff, Bool.or_eq_false_iff, Bool.not_eq_true', Bool.not_eq_false', ne_eq, Decidable.not_not] at hc29
      refine w_seq ?_
      refine rg_text ?_
      refine x_val rfl rfl rfl (v_assign rfl) ?_
      refine x_end ?_
      refine t_norm ?_
      refine w_ret ?_
      refine b_ret ?_
      refine t_ret ?_
      refine t_ret ?_
      refine b_ret ?_
      refine t_ret ?_
      refine ret1 rfl rfl (fun w' hm => ⟨?_, hm.base (by simp)⟩)
      rw [right_no hkl (fun h => by rcases hc29 with h2 | h2; (· exact h2 h.1); have := h.2 (by omega); omega)]
    · simp only [hb29, hb28, hb27, hb18, hb15, hb14, decide_eq_true_eq, decide_eq_false_iff_not, Bool.and_eq_true, Bool.or_eq_true, Bool.and_eq_false_iff, Bool.or_eq_false_iff, Bool.not_eq_true', Bool.not_eq_false', ne_eq, Decidable.not_not] at hc29
      refine w_skip ?_
      refine b_norm ?_
      refine t_norm ?_
      refine rg_text ?_
      refine x_val rfl rfl rfl (v_addi rfl rfl rfl (by first | omega | (dsimp only; omega))) ?_
      refine x_val rfl rfl rfl (v_move rfl) ?_
      refine x_end ?_
      exact l_norm (k + 1) ⟨by omega, rightTo_succ hkl hr hc29.1 (fun h0 => by rcases hc29.2 with h2 | h2 <;> omega)⟩ (by omega) (by repeat (first | exact Sub.nil | refine Sub.cons rfl ?_)) (fun _ h => h)
  · simp only [hb9, decide_eq_true_eq, decide_eq_false_iff_not, Bool.and_eq_true, Bool.or_eq_true, Bool.and_eq_false_iff, Bool.or_eq_false_iff, Bool.not_eq_true', Bool.not_eq_false', ne_eq, Decidable.not_not] at hc9
    obtain rfl : k = ds.length := by omega
    refine w_exit ?_
    refine t_exit ?_
    refine t_exit ?_
    refine b_hit ?_
    refine t_norm ?_
    refine w_seq ?_
    refine rg_text ?_
    refine x_val rfl rfl rfl (v_assign rfl) ?_
    refine x_end ?_
    refine t_norm ?_
    refine w_ret ?_
    refine ret1 rfl rfl (fun w' hm => ⟨?_, hm.base (by simp)⟩)
    rw [right_yes hr]
set_option maxRecDepth 100000 in
theorem c30 {v : Value} {ds : List Int} {D : Nat → Prop} {wk : List Bool} (w : World) (hds : sliceRd tyI D w v ds) (hwk : wk.length = 7) :
    Calls Tryd.prog 30 #[.agg (calC wk v).toArray] w fun e w' => e = .returned (.bool (rightP ds)) ∧ Later w w' := by
  obtain ⟨A, c, rfl, hlc, hmx, hA⟩ := id hds
  refine enter (vs := [.agg (calC wk (.slice A ds.length c)).toArray]) Tryd.func30 rfl Tryd.ntmps30 rfl ?_
  refine w_seq ?_
  refine rg_text ?_
  refine x_box rfl rfl rfl rfl ?_
  intro p1
  refine x_val rfl rfl rfl (v_assign rfl) ?_
  refine x_end ?_
  refine t_norm ?_
  refine w_seq ?_
  refine w_seq ?_
  refine rg_text ?_
  refine x_val rfl rfl rfl (v_assign rfl) ?_
  refine x_end ?_
  refine t_norm ?_
  refine w_block ?_
  refine w_loop (σ := Nat) (fun k => k ≤ ds.length ∧ rightTo ds k) (fun k => [(1, .pointer (some ⟨p1, 0, none⟩)), (3, Value.int .i64 (k : Nat))]) (fun k => [(p1, Obj.cells (calC wk (.slice A ds.length c)).toArray 38)]) (fun k => [(w, fun _ => True)]) (fun k => ds.length - k) (0) (⟨Nat.zero_le _, fun j h hj => by omega⟩) (l_start (by repeat (first | exact Sub.nil | refine Sub.cons rfl ?_)) (fun _ h => h)) ?_
  rintro k ⟨hk, hr⟩
  refine w_seq ?_
  refine w_seq ?_
  refine rg_text ?_
  refine x_val rfl rfl rfl (v_move rfl) ?_
  refine x_val rfl rfl rfl (v_fieldAddr (off' := 7) Tryd.underlying38 rfl sz26 (by decide) rfl rfl) ?_
  refine x_val rfl rfl rfl (v_load Tryd.underlying26 rfl rfl (at_ownL (vs := calC wk (.slice A ds.length c)) (.head _) (calC_v hwk))) ?_
  refine x_val rfl rfl rfl (v_len_slice Tryd.underlying26 rfl) ?_
  refine x_bool rfl rfl rfl (v_lss rfl rfl) ?_
  intro b9 hb9
  refine x_end ?_
  refine t_norm ?_
  refine w_cond rfl (fun hc9 => ?_) (fun hc9 => ?_)
  · simp only [hb9, decide_eq_true_eq, decide_eq_false_iff_not, Bool.and_eq_true, Bool.or_eq_true, Bool.and_eq_false_iff, Bool.or_eq_false_iff, Bool.not_eq_true', Bool.not_eq_false', ne_eq, Decidable.not_not] at hc9
    have hkl : k < ds.length := by omega
    obtain ⟨b0, o0, hA0, hD0, hc0, hin⟩ := int_at hds hkl
    obtain ⟨b1, o1, hA1, hD1, hc1, hin1⟩ := int_at hds (show k - 1 < ds.length by omega)
    refine w_skip ?_
    refine t_norm ?_
    refine w_seq ?_
    refine w_block ?_
    refine w_seq ?_
    refine rg_text ?_
    refine x_val rfl rfl rfl (v_fieldAddr (off' := 7) Tryd.underlying38 rfl sz26 (by decide) rfl rfl) ?_
    refine x_val rfl rfl rfl (v_load Tryd.underlying26 rfl rfl (at_ownL (vs := calC wk (.slice A ds.length c)) (.head _) (calC_v hwk))) ?_
    refine x_val rfl rfl rfl (v_move rfl) ?_
    refine x_val rfl rfl rfl (v_indexAddr Tryd.underlying26 sz3 (congrArg (fun A => some (Value.slice A ds.length c)) hA0) rfl (by first | omega | (dsimp only; omega)) rfl) ?_
    refine x_val rfl rfl rfl (v_load Tryd.underlying3 rfl rfl (at_ro (.head _) trivial (by rw [Nat.mul_one]; exact hc0))) ?_
    refine x_callb rfl rfl rfl Tryd.func39 (by kernel_rfl) rfl (fun w1 hw1 => c39 _ w1) ?_
    intro b17 hb17
    refine x_val rfl rfl rfl (v_assign rfl) ?_
    refine x_end ?_
    refine t_norm ?_
    refine w_seq ?_
    refine rg_draw 20 [(true, 0), (true, 1), (true, 2), (true, 3), (true, 4), (true, 5), (true, 6), (true, 7), (true, 8), (true, 9), (true, 10), (true, 11), (true, 12), (true, 13), (true, 14), (true, 15), (true, 16), (true, 17), (true, 18), (true, 19)] (by kernel_rfl) (by kernel_rfl) ?_
    refine x_val rfl rfl rfl (v_move rfl) ?_
    refine x_bool rfl rfl rfl (v_not rfl) ?_
    intro b19 hb19
    refine x_val rfl rfl rfl (v_move rfl) ?_
    refine x_if [] rfl rfl rfl rfl rfl (fun hg => by obtain ⟨hg0, _⟩ := hg; subst hg0; (try simp only [List.cons_append, List.nil_append, gvl_nil, gvl_t, gvl_f]); exact v_move rfl) ?_
    refine x_ifb [] rfl rfl rfl rfl rfl (fun hg => by obtain ⟨hg0, _⟩ := hg; subst hg0; (try simp only [List.cons_append, List.nil_append, gvl_nil, gvl_t, gvl_f]); exact v_gtr rfl rfl) ?_
    intro b22 hb22
    refine x_if [] rfl rfl rfl rfl rfl (fun hg => by obtain ⟨hg0, _⟩ := hg; subst hg0; (try simp only [List.cons_append, List.nil_append, gvl_nil, gvl_t, gvl_f]); exact v_move rfl) ?_
    refine x_if [(b19, false)] rfl rfl rfl rfl rfl (fun hg => by obtain ⟨hg0, hg1, _⟩ := hg; subst hg0; subst hg1; (try simp only [List.cons_append, List.nil_append, gvl_nil, gvl_t, gvl_f]); exact v_fieldAddr (off' := 7) Tryd.underlying38 rfl sz26 (by decide) rfl rfl) ?_
    refine x_if [(b19, false)] rfl rfl rfl rfl rfl (fun hg => by obtain ⟨hg0, hg1, _⟩ := hg; subst hg0; subst hg1; (try simp only [List.cons_append, List.nil_append, gvl_nil, gvl_t, gvl_f]); exact v_load Tryd.underlying26 rfl rfl (at_ownL (vs := calC wk (.slice A ds.length c)) (.head _) (calC_v hwk))) ?_
    refine x_if [(b19, false)] rfl rfl rfl rfl rfl (fun hg => by obtain ⟨hg0, hg1, _⟩ := hg; subst hg0; subst hg1; (try simp only [List.cons_append, List.nil_append, gvl_nil, gvl_t, gvl_f]); exact v_move rfl) ?_
    refine x_if [(b19, false)] rfl rfl rfl rfl rfl (fun hg => by obtain ⟨hg0, hg1, _⟩ := hg; subst hg0; subst hg1; (try simp only [List.cons_append, List.nil_append, gvl_nil, gvl_t, gvl_f]); exact v_indexAddr Tryd.underlying26 sz3 (congrArg (fun A => some (Value.slice A ds.length c)) hA0) rfl (by first | omega | (dsimp only; omega)) rfl) ?_
    refine x_if [(b19, false)] rfl rfl rfl rfl rfl (fun hg => by obtain ⟨hg0, hg1, _⟩ := hg; subst hg0; subst hg1; (try simp only [List.cons_append, List.nil_append, gvl_nil, gvl_t, gvl_f]); exact v_load Tryd.underlying3 rfl rfl (at_ro (.head _) trivial (by rw [Nat.mul_one]; exact hc0))) ?_
    refine x_if [(b19, false)] rfl rfl rfl rfl rfl (fun hg => by obtain ⟨hg0, hg1, _⟩ := hg; subst hg0; subst hg1; (try simp only [List.cons_append, List.nil_append, gvl_nil, gvl_t, gvl_f]); exact v_fieldAddr (off' := 7) Tryd.underlying38 rfl sz26 (by decide) rfl rfl) ?_
    refine x_if [(b19, false)] rfl rfl rfl rfl rfl (fun hg => by obtain ⟨hg0, hg1, _⟩ := hg; subst hg0; subst hg1; (try simp only [List.cons_append, List.nil_append, gvl_nil, gvl_t, gvl_f]); exact v_load Tryd.underlying26 rfl rfl (at_ownL (vs := calC wk (.slice A ds.length c)) (.head _) (calC_v hwk))) ?_
    refine x_if [(b19, false)] rfl rfl rfl rfl rfl (fun hg => by obtain ⟨hg0, hg1, _⟩ := hg; subst hg0; subst hg1; (try simp only [List.cons_append, List.nil_append, gvl_nil, gvl_t, gvl_f]); exact v_move rfl) ?_
    refine x_if [(b19, false)] rfl rfl rfl rfl rfl (fun hg => by obtain ⟨hg0, hg1, _⟩ := hg; subst hg0; subst hg1; (try simp only [List.cons_append, List.nil_append, gvl_nil, gvl_t, gvl_f]); exact v_subi rfl rfl rfl (by first | omega | (dsimp only; omega))) ?_
    refine x_if [(b19, false)] rfl rfl rfl rfl rfl (fun hg => by obtain ⟨hg0, hg1, _⟩ := hg; subst hg0; subst hg1; (try simp only [List.cons_append, List.nil_append, gvl_nil, gvl_t, gvl_f]); have hk0 := of_decide_eq_true hb22.symm; exact v_indexAddr (j := k - 1) Tryd.underlying26 sz3 (congrArg (fun A => some (Value.slice A ds.length c)) hA1) (congrArg (fun z : Int => some (Value.int .i64 z)) (show (k : Int) - 1 = ((k - 1 : Nat) : Int) by omega)) (by omega) rfl) ?_
    refine x_if [(b19, false)] rfl rfl rfl rfl rfl (fun hg => by obtain ⟨hg0, hg1, _⟩ := hg; subst hg0; subst hg1; (try simp only [List.cons_append, List.nil_append, gvl_nil, gvl_t, gvl_f]); exact v_load Tryd.underlying3 rfl rfl (at_ro (.head _) trivial (by rw [Nat.mul_one]; exact hc1))) ?_
    refine x_ifb [(b19, false)] rfl rfl rfl rfl rfl (fun hg => by obtain ⟨hg0, hg1, _⟩ := hg; subst hg0; subst hg1; (try simp only [List.cons_append, List.nil_append, gvl_nil, gvl_t, gvl_f]); exact v_leq rfl rfl) ?_
    intro b35 hb35
    refine x_ifb [] rfl rfl rfl rfl rfl (fun hg => by obtain ⟨hg0, _⟩ := hg; subst hg0; (try simp only [List.cons_append, List.nil_append, gvl_nil, gvl_t, gvl_f]); exact v_and rfl rfl) ?_
    intro b36 hb36
    refine x_bool rfl rfl rfl (v_or rfl rfl) ?_
    intro b37 hb37
    refine x_end ?_
    refine t_norm ?_
    refine w_cond rfl (fun hc37 => ?_) (fun hc37 => ?_)
    · simp only [hb37, hb36, hb35, hb22, hb19, hb17, decide_eq_true_eq, decide_eq_false_iff_not, Bool.and_eq_true, Bool.or_eq_true, Bool.and_eq_false_iff, Bool.or_eq_false_iff, Bool.not_eq_true', Bool.not_eq_false', ne_eq, Decidable.not_not] at hc37
      refine w_seq ?_
      refine rg_text ?_
      refine x_val rfl rfl rfl (v_assign rfl) ?_
      refine x_end ?_
      refine t_norm ?_
      refine w_ret ?_
      refine b_ret ?_
      refine t_ret ?_
      refine t_ret ?_
      refine b_ret ?_
      refine t_ret ?_
      refine ret1 rfl rfl (fun w' hm => ⟨?_, hm.base (by simp)⟩)
      rw [right_no hkl (fun h => by rcases hc37 with h2 | h2; (· exact h2 h.1); have := h.2 (by omega); omega)]
    · simp only [hb37, hb36, hb35, hb22, hb19, hb17, decide_eq_true_eq, decide_eq_false_iff_not, Bool.and_eq_true, Bool.or_eq_true, Bool.and_eq_false_iff, Bool.or_eq_false_iff, Bool.not_eq_true', Bool.not_eq_false', ne_eq, Decidable.not_not] at hc37
      refine w_skip ?_
      refine b_norm ?_
      refine t_norm ?_
      refine rg_text ?_
      refine x_val rfl rfl rfl (v_move rfl) ?_
      refine x_val rfl rfl rfl (v_addi rfl rfl rfl (by first | omega | (dsimp only; omega))) ?_
      refine x_val rfl rfl rfl (v_assign rfl) ?_
      refine x_end ?_
      exact l_norm (k + 1) ⟨by omega, rightTo_succ hkl hr hc37.1 (fun h0 => by rcases hc37.2 with h2 | h2 <;> omega)⟩ (by omega) (by repeat (first | exact Sub.nil | refine Sub.cons rfl ?_)) (fun _ h => h)
  · simp only [hb9, decide_eq_true_eq, decide_eq_false_iff_not, Bool.and_eq_true, Bool.or_eq_true, Bool.and_eq_false_iff, Bool.or_eq_false_iff, Bool.not_eq_true', Bool.not_eq_false', ne_eq, Decidable.not_not] at hc9
    obtain rfl : k = ds.length := by omega
    refine w_exit ?_
    refine t_exit ?_
    refine t_exit ?_
    refine b_hit ?_
    refine t_norm ?_
    refine w_seq ?_
    refine rg_text ?_
    refine x_val rfl rfl rfl (v_assign rfl) ?_
    refine x_end ?_
    refine t_norm ?_
    refine w_ret ?_
    refine ret1 rfl rfl (fun w' hm => ⟨?_, hm.base (by simp)⟩)
    rw [right_yes hr]

end Go.Proofs.YtffdbbcmibamjaaDoor

namespace Go.Proofs.YtffdbbcmibamjaaDoor
open Go.RowKit Go.PK
set_option linter.unusedVariables false
set_option linter.unusedSimpArgs false

theorem hasI_yes {ds : List Int} {n : Int} {k : Nat} (hk : k < ds.length) (h : ds[k] = n) : hasI ds n = true := by
  unfold hasI; rw [List.any_eq_true]; exact ⟨ds[k], List.getElem_mem hk, by simp [h]⟩
theorem hasI_no {ds : List Int} {n : Int} (h : ∀ j (hj : j < ds.length), ds[j] ≠ n) : hasI ds n = false := by
  unfold hasI; rw [List.any_eq_false]; intro x hx
  obtain ⟨i, hi, rfl⟩ := List.getElem_of_mem hx
  simpa using (h i hi).symm
def nextR (wk : List Bool) (ds : List Int) (n : Int) : Int × Bool := match (List.range 400).find? (fun j : Nat => openP wk ds (n + (j : Int))) with | some j => (n + (j : Int), true) | none => (0, false)
theorem next_yes {wk : List Bool} {ds : List Int} {n : Int} {k : Nat} (hk : k < 400) (h : openP wk ds (n + (k : Int)) = true) (hno : ∀ j, j < k → openP wk ds (n + (j : Int)) = false) : nextR wk ds n = (n + (k : Int), true) := by
  unfold nextR
  have : (List.range 400).find? (fun j : Nat => openP wk ds (n + (j : Int))) = some k := by
    rw [List.find?_range_eq_some]
    exact ⟨h, by simpa using hk, fun j hj => by simp [hno j hj]⟩
  rw [this]
theorem next_no {wk : List Bool} {ds : List Int} {n : Int} (hno : ∀ j : Nat, j < 400 → openP wk ds (n + (j : Int)) = false) : nextR wk ds n = (0, false) := by
  unfold nextR
  have : (List.range 400).find? (fun j : Nat => openP wk ds (n + (j : Int))) = none := by
    rw [List.find?_eq_none]
    intro j hj
    simp [hno j (by simpa using hj)]
  rw [this]
theorem open_out {wk : List Bool} {ds : List Int} {n : Int} (h : ¬okDay n) : openP wk ds n = false := by unfold openP; rw [decide_eq_false h]; rfl
set_option maxRecDepth 100000 in
theorem c32 {v : Value} {ds : List Int} {D : Nat → Prop} {wk : List Bool} (n : Int) (w : World) (hds : sliceRd tyI D w v ds) (hwk : wk.length = 7) :
    Calls Tryd.prog 32 #[.agg (calC wk v).toArray, .int .i64 n] w fun e w' => e = .returned (.bool (openP wk ds n)) ∧ Later w w' := by
  obtain ⟨A, c, rfl, hlc, hmx, hA⟩ := id hds
  obtain ⟨q, hq⟩ : ∃ q : Nat, (n + 3) % 7 = (q : Int) := ⟨((n + 3) % 7).toNat, by omega⟩
  have hql : q < 7 := by omega
  refine enter (vs := [.agg (calC wk (.slice A ds.length c)).toArray, .int .i64 n]) Tryd.func32 rfl Tryd.ntmps32 rfl ?_
  refine w_seq ?_
  refine rg_text ?_
  refine x_box rfl rfl rfl rfl ?_
  intro p2
  refine x_val rfl rfl rfl (v_assign rfl) ?_
  refine x_end ?_
  refine t_norm ?_
  refine w_seq ?_
  refine rg_text ?_
  refine x_val rfl rfl rfl (v_move rfl) ?_
  refine x_callb rfl rfl rfl Tryd.func39 (by kernel_rfl) rfl (fun w1 hw1 => c39 _ w1) ?_
  intro b8 hb8
  refine x_val rfl rfl rfl (v_assign rfl) ?_
  refine x_end ?_
  refine t_norm ?_
  refine w_seq ?_
  refine w_seq ?_
  refine rg_text ?_
  refine x_val rfl rfl rfl (v_move rfl) ?_
  refine x_bool rfl rfl rfl (v_not rfl) ?_
  intro b10 hb10
  refine x_val rfl rfl rfl (v_move rfl) ?_
  refine x_if [] rfl rfl rfl rfl rfl (fun hg => by obtain ⟨hg0, _⟩ := hg; subst hg0; (try simp only [List.cons_append, List.nil_append, gvl_nil, gvl_t, gvl_f]); exact v_move rfl) ?_
  refine x_call_if [] rfl rfl rfl rfl rfl Tryd.func18 (by kernel_rfl) (fun hg => by obtain ⟨hg0, _⟩ := hg; subst hg0; (try simp only [List.cons_append, List.nil_append, gvl_nil, gvl_t, gvl_f]); refine ⟨_, rfl, ?_⟩; exact fun w1 hw1 => c18 _ w1) ?_
  refine x_if [] rfl rfl rfl rfl rfl (fun hg => by obtain ⟨hg0, _⟩ := hg; subst hg0; (try simp only [List.cons_append, List.nil_append, gvl_nil, gvl_t, gvl_f]); exact v_fieldAddr (off' := 0) Tryd.underlying38 rfl sz36 (by decide) rfl rfl) ?_
  refine x_if [] rfl rfl rfl rfl rfl (fun hg => by obtain ⟨hg0, _⟩ := hg; subst hg0; (try simp only [List.cons_append, List.nil_append, gvl_nil, gvl_t, gvl_f]); exact v_indexArr (j := q) (off' := q) Tryd.underlying36 sz4 rfl (congrArg (fun z : Int => some (Value.int .i64 z)) hq) (by omega) (by omega)) ?_
  refine x_ifb [] rfl rfl rfl rfl rfl (fun hg => by obtain ⟨hg0, _⟩ := hg; subst hg0; (try simp only [List.cons_append, List.nil_append, gvl_nil, gvl_t, gvl_f]); exact v_load Tryd.underlying4 rfl rfl (at_ownL (vs := calC wk (.slice A ds.length c)) (.head _) (calC_wk (by omega)))) ?_
  intro b16 hb16
  refine x_bool rfl rfl rfl (v_or rfl rfl) ?_
  intro b17 hb17
  refine x_end ?_
  refine t_norm ?_
  refine w_cond rfl (fun hc17 => ?_) (fun hc17 => ?_)
  · have hop : openP wk ds n = false := by unfold openP; rw [hq, Int.toNat_natCast, ← hb16, ← hb8]; rw [hb17, hb10] at hc17; revert hc17; cases b8 <;> cases b16 <;> simp
    refine w_seq ?_
    refine rg_text ?_
    refine x_val rfl rfl rfl (v_assign rfl) ?_
    refine x_end ?_
    refine t_norm ?_
    refine w_ret ?_
    refine t_ret ?_
    refine ret1 rfl rfl (fun w' hm => ⟨?_, hm.base (by simp)⟩)
    rw [hop]
  · have hop : openP wk ds n = !hasI ds n := by unfold openP; rw [hq, Int.toNat_natCast, ← hb16, ← hb8]; rw [hb17, hb10] at hc17; revert hc17; cases b8 <;> cases b16 <;> simp
    refine w_skip ?_
    refine t_norm ?_
    refine w_seq ?_
    refine w_seq ?_
    refine rg_text ?_
    refine x_val rfl rfl rfl (v_assign rfl) ?_
    refine x_end ?_
    refine t_norm ?_
    refine w_block ?_
    refine w_loop (σ := Nat) (fun k => k ≤ ds.length ∧ ∀ j (h : j < ds.length), j < k → ds[j] ≠ n) (fun k => [(1, Value.int .i64 n), (2, .pointer (some ⟨p2, 0, none⟩)), (6, Value.int .i64 (k : Nat))]) (fun k => [(p2, Obj.cells (calC wk (.slice A ds.length c)).toArray 38)]) (fun k => [(w, fun _ => True)]) (fun k => ds.length - k) (0) (⟨Nat.zero_le _, by intros; omega⟩) (l_start (by repeat (first | exact Sub.nil | refine Sub.cons rfl ?_)) (fun _ h => h)) ?_
    rintro k ⟨hk, hno⟩
    refine w_seq ?_
    refine w_seq ?_
    refine rg_text ?_
    refine x_val rfl rfl rfl (v_move rfl) ?_
    refine x_val rfl rfl rfl (v_fieldAddr (off' := 7) Tryd.underlying38 rfl sz26 (by decide) rfl rfl) ?_
    refine x_val rfl rfl rfl (v_load Tryd.underlying26 rfl rfl (at_ownL (vs := calC wk (.slice A ds.length c)) (.head _) (calC_v hwk))) ?_
    refine x_val rfl rfl rfl (v_len_slice Tryd.underlying26 rfl) ?_
    refine x_bool rfl rfl rfl (v_lss rfl rfl) ?_
    intro b22 hb22
    refine x_end ?_
    refine t_norm ?_
    refine w_cond rfl (fun hc22 => ?_) (fun hc22 => ?_)
    · simp only [hb22, decide_eq_true_eq, decide_eq_false_iff_not, Bool.and_eq_true, Bool.or_eq_true, Bool.and_eq_false_iff, Bool.or_eq_false_iff, Bool.not_eq_true', Bool.not_eq_false', ne_eq, Decidable.not_not] at hc22
      have hkl : k < ds.length := by omega
      obtain ⟨b0, o0, hA0, hD0, hc0, hin⟩ := int_at hds hkl
      refine w_skip ?_
      refine t_norm ?_
      refine w_seq ?_
      refine w_block ?_
      refine w_seq ?_
      refine rg_text ?_
      refine x_val rfl rfl rfl (v_fieldAddr (off' := 7) Tryd.underlying38 rfl sz26 (by decide) rfl rfl) ?_
      refine x_val rfl rfl rfl (v_load Tryd.underlying26 rfl rfl (at_ownL (vs := calC wk (.slice A ds.length c)) (.head _) (calC_v hwk))) ?_
      refine x_val rfl rfl rfl (v_move rfl) ?_
      refine x_val rfl rfl rfl (v_indexAddr Tryd.underlying26 sz3 (congrArg (fun A => some (Value.slice A ds.length c)) hA0) rfl (by first | omega | (dsimp only; omega)) rfl) ?_
      refine x_val rfl rfl rfl (v_load Tryd.underlying3 rfl rfl (at_ro (.head _) trivial (by rw [Nat.mul_one]; exact hc0))) ?_
      refine x_val rfl rfl rfl (v_move rfl) ?_
      refine x_bool rfl rfl rfl (v_eql rfl rfl) ?_
      intro b31 hb31
      refine x_end ?_
      refine t_norm ?_
      refine w_cond rfl (fun hc31 => ?_) (fun hc31 => ?_)
      · simp only [hb31, decide_eq_true_eq, decide_eq_false_iff_not, Bool.and_eq_true, Bool.or_eq_true, Bool.and_eq_false_iff, Bool.or_eq_false_iff, Bool.not_eq_true', Bool.not_eq_false', ne_eq, Decidable.not_not] at hc31
        refine w_seq ?_
        refine rg_text ?_
        refine x_val rfl rfl rfl (v_assign rfl) ?_
        refine x_end ?_
        refine t_norm ?_
        refine w_ret ?_
        refine b_ret ?_
        refine t_ret ?_
        refine t_ret ?_
        refine b_ret ?_
        refine t_ret ?_
        refine ret1 rfl rfl (fun w' hm => ⟨?_, hm.base (by simp)⟩)
        rw [hop, hasI_yes hkl hc31]; rfl
      · simp only [hb31, decide_eq_true_eq, decide_eq_false_iff_not, Bool.and_eq_true, Bool.or_eq_true, Bool.and_eq_false_iff, Bool.or_eq_false_iff, Bool.not_eq_true', Bool.not_eq_false', ne_eq, Decidable.not_not] at hc31
        refine w_skip ?_
        refine b_norm ?_
        refine t_norm ?_
        refine rg_text ?_
        refine x_val rfl rfl rfl (v_move rfl) ?_
        refine x_val rfl rfl rfl (v_addi rfl rfl rfl (by first | omega | (dsimp only; omega))) ?_
        refine x_val rfl rfl rfl (v_assign rfl) ?_
        refine x_end ?_
        exact l_norm (k + 1) ⟨by omega, fun j h hjk => by rcases Nat.lt_succ_iff_lt_or_eq.1 hjk with h2 | rfl; (· exact hno j h h2); exact hc31⟩ (by omega) (by repeat (first | exact Sub.nil | refine Sub.cons rfl ?_)) (fun _ h => h)
    · simp only [hb22, decide_eq_true_eq, decide_eq_false_iff_not, Bool.and_eq_true, Bool.or_eq_true, Bool.and_eq_false_iff, Bool.or_eq_false_iff, Bool.not_eq_true', Bool.not_eq_false', ne_eq, Decidable.not_not] at hc22
      refine w_exit ?_
      refine t_exit ?_
      refine t_exit ?_
      refine b_hit ?_
      refine t_norm ?_
      refine w_seq ?_
      refine rg_text ?_
      refine x_val rfl rfl rfl (v_assign rfl) ?_
      refine x_end ?_
      refine t_norm ?_
      refine w_ret ?_
      refine ret1 rfl rfl (fun w' hm => ⟨?_, hm.base (by simp)⟩)
      rw [hop, hasI_no (fun j hj => hno j hj (by omega))]; rfl

theorem calC_size {wk : List Bool} {v : Value} (h : wk.length = 7) : (calC wk v).toArray.size = 8 := by simp [calC, h]
set_option maxRecDepth 100000 in
theorem c23 {v : Value} {ds : List Int} {D : Nat → Prop} {wk : List Bool} (n : Int) (w : World) (hds : sliceRd tyI D w v ds) (hwk : wk.length = 7) (hn : in64 n) :
    Calls Tryd.prog 23 #[.agg (calC wk v).toArray, .int .i64 n] w fun e w' => e = .returned (.tuple #[.int .i64 (nextR wk ds n).1, .bool (nextR wk ds n).2]) ∧ Later w w' := by
  obtain ⟨hn1, hn2⟩ := hn
  refine enter (vs := [.agg (calC wk v).toArray, .int .i64 n]) Tryd.func23 rfl Tryd.ntmps23 rfl ?_
  refine w_seq ?_
  refine rg_text ?_
  refine x_box rfl rfl rfl rfl ?_
  intro p2
  refine x_val rfl rfl rfl (v_assign rfl) ?_
  refine x_val rfl rfl rfl (v_assign rfl) ?_
  refine x_end ?_
  refine t_norm ?_
  refine w_seq ?_
  refine w_seq ?_
  refine rg_text ?_
  refine x_val rfl rfl rfl (v_assign rfl) ?_
  refine x_end ?_
  refine t_norm ?_
  refine w_block ?_
  refine w_loop (σ := Nat × Int) (fun x => x.1 ≤ 400 ∧ x.2 = n + (x.1 : Int) ∧ ∀ j : Nat, j < x.1 → openP wk ds (n + (j : Int)) = false) (fun x => [(1, Value.int .i64 x.2), (2, .pointer (some ⟨p2, 0, none⟩)), (6, Value.int .i64 (x.1 : Nat))]) (fun x => [(p2, Obj.cells (calC wk v).toArray 38)]) (fun x => [(w, fun _ => True)]) (fun x => 400 - x.1) ((0, n)) (⟨Nat.zero_le _, by simp, by intros; omega⟩) (l_start (by repeat (first | exact Sub.nil | refine Sub.cons rfl ?_)) (fun _ h => h)) ?_
  rintro ⟨k, a⟩ ⟨hk, ha, hno⟩
  refine w_state ([(1, Value.int .i64 a), (2, .pointer (some ⟨p2, 0, none⟩)), (6, Value.int .i64 (k : Nat))]) ([(p2, Obj.cells (calC wk v).toArray 38)]) ([(w, fun _ => True)]) ?_
  dsimp only at hk ha hno
  refine w_seq ?_
  refine w_seq ?_
  refine rg_text ?_
  refine x_val rfl rfl rfl (v_move rfl) ?_
  refine x_bool rfl rfl rfl (v_lss rfl rfl) ?_
  intro b8 hb8
  refine x_val rfl rfl rfl (v_move rfl) ?_
  refine x_if [] rfl rfl rfl rfl rfl (fun hg => by obtain ⟨hg0, _⟩ := hg; subst hg0; (try simp only [List.cons_append, List.nil_append, gvl_nil, gvl_t, gvl_f]); exact v_move rfl) ?_
  refine x_ifb [] rfl rfl rfl rfl rfl (fun hg => by obtain ⟨hg0, _⟩ := hg; subst hg0; (try simp only [List.cons_append, List.nil_append, gvl_nil, gvl_t, gvl_f]); exact v_leq rfl rfl) ?_
  intro b11 hb11
  refine x_bool rfl rfl rfl (v_and rfl rfl) ?_
  intro b12 hb12
  refine x_end ?_
  refine t_norm ?_
  refine w_cond rfl (fun hc12 => ?_) (fun hc12 => ?_)
  · simp only [hb12, hb11, hb8, decide_eq_true_eq, decide_eq_false_iff_not, Bool.and_eq_true, Bool.or_eq_true, Bool.and_eq_false_iff, Bool.or_eq_false_iff, Bool.not_eq_true', Bool.not_eq_false', ne_eq, Decidable.not_not] at hc12
    refine w_skip ?_
    refine t_norm ?_
    refine w_seq ?_
    refine w_block ?_
    refine w_seq ?_
    refine w_seq ?_
    refine rg_text ?_
    refine x_val rfl rfl rfl (v_load_blk (e := 38) (fz := (0, 0)) (cs := (calC wk v).toArray) Tryd.underlying38 rfl rfl (.head _) (by rw [calC_size hwk]; exact sz38)) ?_
    refine x_val rfl rfl rfl (v_move rfl) ?_
    refine x_callb rfl rfl rfl Tryd.func24 (by kernel_rfl) rfl (fun w1 hw1 => c24 _ w1 (hds.keep (Kept.later (hw1.base (by simp)))) hwk) ?_
    intro b17 hb17
    refine x_end ?_
    refine t_norm ?_
    refine w_cond rfl (fun hc17 => ?_) (fun hc17 => ?_)
    · rw [hb17] at hc17
      refine w_seq ?_
      refine rg_text ?_
      refine x_val rfl rfl rfl (v_move rfl) ?_
      refine x_val rfl rfl rfl (v_assign rfl) ?_
      refine x_val rfl rfl rfl (v_assign rfl) ?_
      refine x_end ?_
      refine t_norm ?_
      refine w_ret ?_
      refine t_ret ?_
      refine b_ret ?_
      refine t_ret ?_
      refine t_ret ?_
      refine b_ret ?_
      refine t_ret ?_
      refine ret2 rfl rfl rfl (fun w' hm => ⟨?_, hm.base (by simp)⟩)
      rw [next_yes (by omega) (ha ▸ hc17) hno, ha]
    · rw [hb17] at hc17
      refine w_skip ?_
      refine t_norm ?_
      refine rg_text ?_
      refine x_val rfl rfl rfl (v_move rfl) ?_
      refine x_val rfl rfl rfl (v_addi rfl rfl rfl (by first | omega | (dsimp only; omega))) ?_
      refine x_val rfl rfl rfl (v_assign rfl) ?_
      refine x_end ?_
      refine b_norm ?_
      refine t_norm ?_
      refine rg_text ?_
      refine x_val rfl rfl rfl (v_move rfl) ?_
      refine x_val rfl rfl rfl (v_addi rfl rfl rfl (by first | omega | (dsimp only; omega))) ?_
      refine x_val rfl rfl rfl (v_assign rfl) ?_
      refine x_end ?_
      exact l_norm (k + 1, a + 1) ⟨by dsimp only; omega, by dsimp only; omega, by dsimp only; exact fun j hj => by rcases Nat.lt_succ_iff_lt_or_eq.1 hj with h | rfl; (· exact hno j h); exact (ha ▸ hc17)⟩ (by simp only; omega) (by repeat (first | exact Sub.nil | refine Sub.cons rfl ?_)) (fun _ h => h)
  · simp only [hb12, hb11, hb8, decide_eq_true_eq, decide_eq_false_iff_not, Bool.and_eq_true, Bool.or_eq_true, Bool.and_eq_false_iff, Bool.or_eq_false_iff, Bool.not_eq_true', Bool.not_eq_false', ne_eq, Decidable.not_not] at hc12
    refine w_exit ?_
    refine t_exit ?_
    refine t_exit ?_
    refine b_hit ?_
    refine t_norm ?_
    refine w_seq ?_
    refine rg_text ?_
    refine x_val rfl rfl rfl (v_assign rfl) ?_
    refine x_val rfl rfl rfl (v_assign rfl) ?_
    refine x_end ?_
    refine t_norm ?_
    refine w_ret ?_
    refine ret2 rfl rfl rfl (fun w' hm => ⟨?_, hm.base (by simp)⟩)
    rw [next_no (fun j hj => by rcases hc12 with h | h; (· exact hno j (by omega)); rcases Nat.lt_or_ge j k with h3 | h3; (· exact hno j h3); exact open_out (fun ho => by unfold okDay at ho; omega))]

end Go.Proofs.YtffdbbcmibamjaaDoor

namespace Go.Proofs.YtffdbbcmibamjaaDoor
open Go.RowKit Go.PK
set_option linter.unusedVariables false
set_option linter.unusedSimpArgs false
set_option maxRecDepth 100000 in
theorem c31 {v : Value} {ds : List Int} {D : Nat → Prop} {wk : List Bool} (n : Int) (w : World) (hds : sliceRd tyI D w v ds) (hwk : wk.length = 7) (hn : in64 n) :
    Calls Tryd.prog 31 #[.agg (calC wk v).toArray, .int .i64 n] w fun e w' => e = .returned (.tuple #[.int .i64 (nextR wk ds n).1, .bool (nextR wk ds n).2]) ∧ Later w w' := by
  obtain ⟨hn1, hn2⟩ := hn
  refine enter (vs := [.agg (calC wk v).toArray, .int .i64 n]) Tryd.func31 rfl Tryd.ntmps31 rfl ?_
  refine w_seq ?_
  refine rg_text ?_
  refine x_box rfl rfl rfl rfl ?_
  intro p2
  refine x_val rfl rfl rfl (v_assign rfl) ?_
  refine x_val rfl rfl rfl (v_assign rfl) ?_
  refine x_end ?_
  refine t_norm ?_
  refine w_seq ?_
  refine w_seq ?_
  refine rg_text ?_
  refine x_val rfl rfl rfl (v_move rfl) ?_
  refine x_bool rfl rfl rfl (v_gtr rfl rfl) ?_
  intro b9 hb9
  refine x_val rfl rfl rfl (v_move rfl) ?_
  refine x_if [] rfl rfl rfl rfl rfl (fun hg => by obtain ⟨hg0, _⟩ := hg; subst hg0; (try simp only [List.cons_append, List.nil_append, gvl_nil, gvl_t, gvl_f]); exact v_move rfl) ?_
  refine x_ifb [] rfl rfl rfl rfl rfl (fun hg => by obtain ⟨hg0, _⟩ := hg; subst hg0; (try simp only [List.cons_append, List.nil_append, gvl_nil, gvl_t, gvl_f]); exact v_lss rfl rfl) ?_
  intro b12 hb12
  refine x_bool rfl rfl rfl (v_or rfl rfl) ?_
  intro b13 hb13
  refine x_end ?_
  refine t_norm ?_
  refine w_cond rfl (fun hc13 => ?_) (fun hc13 => ?_)
  · simp only [hb13, hb12, hb9, decide_eq_true_eq, decide_eq_false_iff_not, Bool.and_eq_true, Bool.or_eq_true, Bool.and_eq_false_iff, Bool.or_eq_false_iff, Bool.not_eq_true', Bool.not_eq_false', ne_eq, Decidable.not_not] at hc13
    refine w_seq ?_
    refine rg_text ?_
    refine x_val rfl rfl rfl (v_assign rfl) ?_
    refine x_val rfl rfl rfl (v_assign rfl) ?_
    refine x_end ?_
    refine t_norm ?_
    refine w_ret ?_
    refine t_ret ?_
    refine ret2 rfl rfl rfl (fun w' hm => ⟨?_, hm.base (by simp)⟩)
    rw [next_no (fun j hj => open_out (fun ho => by unfold okDay at ho; omega))]
  · simp only [hb13, hb12, hb9, decide_eq_true_eq, decide_eq_false_iff_not, Bool.and_eq_true, Bool.or_eq_true, Bool.and_eq_false_iff, Bool.or_eq_false_iff, Bool.not_eq_true', Bool.not_eq_false', ne_eq, Decidable.not_not] at hc13
    refine w_skip ?_
    refine t_norm ?_
    refine w_seq ?_
    refine w_seq ?_
    refine rg_text ?_
    refine x_val rfl rfl rfl (v_move rfl) ?_
    refine x_val rfl rfl rfl (v_assign rfl) ?_
    refine x_end ?_
    refine t_norm ?_
    refine w_block ?_
    refine w_loop (σ := Nat × Int) (fun x => x.1 ≤ 400 ∧ x.2 = n + (x.1 : Int) ∧ ∀ j : Nat, j < x.1 → openP wk ds (n + (j : Int)) = false) (fun x => [(1, Value.int .i64 n), (2, .pointer (some ⟨p2, 0, none⟩)), (6, Value.int .i64 x.2)]) (fun x => [(p2, Obj.cells (calC wk v).toArray 38)]) (fun x => [(w, fun _ => True)]) (fun x => 400 - x.1) ((0, n)) (⟨Nat.zero_le _, by simp, by intros; omega⟩) (l_start (by repeat (first | exact Sub.nil | refine Sub.cons rfl ?_)) (fun _ h => h)) ?_
    rintro ⟨k, a⟩ ⟨hk, ha, hno⟩
    refine w_state ([(1, Value.int .i64 n), (2, .pointer (some ⟨p2, 0, none⟩)), (6, Value.int .i64 a)]) ([(p2, Obj.cells (calC wk v).toArray 38)]) ([(w, fun _ => True)]) ?_
    dsimp only at hk ha hno
    refine w_seq ?_
    refine w_seq ?_
    refine rg_text ?_
    refine x_val rfl rfl rfl (v_move rfl) ?_
    refine x_val rfl rfl rfl (v_move rfl) ?_
    refine x_val rfl rfl rfl (v_addi rfl rfl rfl (by first | omega | (dsimp only; omega))) ?_
    refine x_bool rfl rfl rfl (v_lss rfl rfl) ?_
    intro b18 hb18
    refine x_end ?_
    refine t_norm ?_
    refine w_cond rfl (fun hc18 => ?_) (fun hc18 => ?_)
    · simp only [hb18, decide_eq_true_eq, decide_eq_false_iff_not, Bool.and_eq_true, Bool.or_eq_true, Bool.and_eq_false_iff, Bool.or_eq_false_iff, Bool.not_eq_true', Bool.not_eq_false', ne_eq, Decidable.not_not] at hc18
      refine w_skip ?_
      refine t_norm ?_
      refine w_seq ?_
      refine w_block ?_
      refine w_seq ?_
      refine rg_text ?_
      refine x_val rfl rfl rfl (v_load_blk (e := 38) (fz := (0, 0)) (cs := (calC wk v).toArray) Tryd.underlying38 rfl rfl (.head _) (by rw [calC_size hwk]; exact sz38)) ?_
      refine x_val rfl rfl rfl (v_move rfl) ?_
      refine x_callb rfl rfl rfl Tryd.func32 (by kernel_rfl) rfl (fun w1 hw1 => c32 _ w1 (hds.keep (Kept.later (hw1.base (by simp)))) hwk) ?_
      intro b23 hb23
      refine x_val rfl rfl rfl (v_assign rfl) ?_
      refine x_end ?_
      refine t_norm ?_
      refine w_seq ?_
      refine rg_text ?_
      refine x_val rfl rfl rfl (v_move rfl) ?_
      refine x_end ?_
      refine t_norm ?_
      refine w_cond rfl (fun hc24 => ?_) (fun hc24 => ?_)
      · rw [hb23] at hc24
        refine w_seq ?_
        refine rg_text ?_
        refine x_val rfl rfl rfl (v_move rfl) ?_
        refine x_val rfl rfl rfl (v_assign rfl) ?_
        refine x_val rfl rfl rfl (v_assign rfl) ?_
        refine x_end ?_
        refine t_norm ?_
        refine w_ret ?_
        refine b_ret ?_
        refine t_ret ?_
        refine t_ret ?_
        refine b_ret ?_
        refine t_ret ?_
        refine ret2 rfl rfl rfl (fun w' hm => ⟨?_, hm.base (by simp)⟩)
        rw [next_yes (by omega) (ha ▸ hc24) hno, ha]
      · rw [hb23] at hc24
        refine w_skip ?_
        refine b_norm ?_
        refine t_norm ?_
        refine rg_text ?_
        refine x_val rfl rfl rfl (v_move rfl) ?_
        refine x_val rfl rfl rfl (v_addi rfl rfl rfl (by first | omega | (dsimp only; omega))) ?_
        refine x_val rfl rfl rfl (v_assign rfl) ?_
        refine x_end ?_
        exact l_norm (k + 1, a + 1) ⟨by dsimp only; omega, by dsimp only; omega, by dsimp only; exact fun j hj => by rcases Nat.lt_succ_iff_lt_or_eq.1 hj with h | rfl; (· exact hno j h); exact (ha ▸ hc24)⟩ (by simp only; omega) (by repeat (first | exact Sub.nil | refine Sub.cons rfl ?_)) (fun _ h => h)
    · simp only [hb18, decide_eq_true_eq, decide_eq_false_iff_not, Bool.and_eq_true, Bool.or_eq_true, Bool.and_eq_false_iff, Bool.or_eq_false_iff, Bool.not_eq_true', Bool.not_eq_false', ne_eq, Decidable.not_not] at hc18
      refine w_exit ?_
      refine t_exit ?_
      refine t_exit ?_
      refine b_hit ?_
      refine t_norm ?_
      refine w_seq ?_
      refine rg_text ?_
      refine x_val rfl rfl rfl (v_assign rfl) ?_
      refine x_val rfl rfl rfl (v_assign rfl) ?_
      refine x_end ?_
      refine t_norm ?_
      refine w_ret ?_
      refine ret2 rfl rfl rfl (fun w' hm => ⟨?_, hm.base (by simp)⟩)
      rw [next_no (fun j hj => hno j (by omega))]

end Go.Proofs.YtffdbbcmibamjaaDoor

namespace Go.Proofs.YtffdbbcmibamjaaDoor
open Go.RowKit Go.PK
set_option linter.unusedVariables false
set_option linter.unusedSimpArgs false

def isDig (c : UInt8) : Prop := 48 ≤ c.toNat ∧ c.toNat ≤ 57
def valTo (s : ByteArray) : Nat → Int
  | 0 => 0
  | k + 1 => 10 * valTo s k + ((byteAt s k).toNat - 48)
def allDig (s : ByteArray) : Prop := ∀ j, j < s.size → isDig (byteAt s j)
instance (s : ByteArray) : Decidable (allDig s) := by unfold allDig isDig; infer_instance
def numR (s : ByteArray) : Int × Bool := if allDig s then (valTo s s.size, true) else (0, false)
theorem valTo_rng {s : ByteArray} : ∀ {k : Nat}, (∀ j, j < k → isDig (byteAt s j)) → 0 ≤ valTo s k ∧ valTo s k ≤ 10 ^ k - 1
  | 0, _ => ⟨Int.le_refl _, by show (0 : Int) ≤ 10 ^ 0 - 1; decide⟩
  | k + 1, h => by
    have ih := valTo_rng (k := k) (fun j hj => h j (by omega))
    have hd := h k (by omega)
    unfold isDig at hd
    show 0 ≤ 10 * valTo s k + ((byteAt s k).toNat - 48) ∧ 10 * valTo s k + ((byteAt s k).toNat - 48) ≤ 10 ^ (k + 1) - 1
    rw [Int.pow_succ]
    omega
theorem pow10_le {k : Nat} (h : k ≤ 4) : (10 : Int) ^ k ≤ 10000 := by
  match k, h with
  | 0, _ | 1, _ | 2, _ | 3, _ | 4, _ => decide
theorem dig_conv {c : UInt8} (h : isDig c) : IntKind.i64.wrap (IntKind.u8.wrap ((c.toNat : Int) - 48)) = (c.toNat : Int) - 48 := by
  unfold isDig at h
  rw [IntKind.wrap_u8, IntKind.wrap_i64]; omega
set_option maxRecDepth 100000 in
theorem c47 (s : ByteArray) (w : World) (hs : s.size ≤ 4) :
    Calls Tryd.prog 47 #[.string s] w fun e w' => e = .returned (.tuple #[.int .i64 (numR s).1, .bool (numR s).2]) ∧ Later w w' := by
  refine enter (vs := [.string s]) Tryd.func47 rfl Tryd.ntmps47 rfl ?_
  refine w_seq ?_
  refine rg_text ?_
  refine x_val rfl rfl rfl (v_assign rfl) ?_
  refine x_val rfl rfl rfl (v_assign rfl) ?_
  refine x_end ?_
  refine t_norm ?_
  refine w_seq ?_
  refine rg_text ?_
  refine x_val rfl rfl rfl (v_assign rfl) ?_
  refine x_end ?_
  refine t_norm ?_
  refine w_seq ?_
  refine w_seq ?_
  refine rg_text ?_
  refine x_val rfl rfl rfl (v_assign rfl) ?_
  refine x_end ?_
  refine t_norm ?_
  refine w_block ?_
  refine w_loop (σ := Nat × Int) (fun x => x.1 ≤ s.size ∧ x.2 = valTo s x.1 ∧ ∀ j, j < x.1 → isDig (byteAt s j)) (fun x => [(0, Value.string s), (4, Value.int .i64 x.2), (5, Value.int .i64 (x.1 : Nat))]) (fun x => []) (fun x => [(w, fun _ => True)]) (fun x => s.size - x.1) ((0, 0)) (⟨Nat.zero_le _, rfl, by intros; omega⟩) (l_start (by repeat (first | exact Sub.nil | refine Sub.cons rfl ?_)) (fun _ h => h)) ?_
  rintro ⟨k, a⟩ ⟨hk, ha, hd⟩
  refine w_state ([(0, Value.string s), (4, Value.int .i64 a), (5, Value.int .i64 (k : Nat))]) ([]) ([(w, fun _ => True)]) ?_
  dsimp only at hk ha hd
  have hr := valTo_rng hd
  have hp := pow10_le (k := k) (by omega)
  refine w_seq ?_
  refine w_seq ?_
  refine rg_text ?_
  refine x_val rfl rfl rfl (v_move rfl) ?_
  refine x_val rfl rfl rfl (v_move rfl) ?_
  refine x_val rfl rfl rfl (v_len_str Tryd.underlying9 rfl) ?_
  refine x_bool rfl rfl rfl (v_lss rfl rfl) ?_
  intro b9 hb9
  refine x_end ?_
  refine t_norm ?_
  refine w_cond rfl (fun hc9 => ?_) (fun hc9 => ?_)
  · simp only [hb9, decide_eq_true_eq, decide_eq_false_iff_not, Bool.and_eq_true, Bool.or_eq_true, Bool.and_eq_false_iff, Bool.or_eq_false_iff, Bool.not_eq_true', Bool.not_eq_false', ne_eq, Decidable.not_not] at hc9
    have hkl : k < s.size := by omega
    refine w_skip ?_
    refine t_norm ?_
    refine w_seq ?_
    refine w_block ?_
    refine w_seq ?_
    refine w_seq ?_
    refine rg_text ?_
    refine x_val rfl rfl rfl (v_move rfl) ?_
    refine x_val rfl rfl rfl (v_move rfl) ?_
    refine x_val rfl rfl rfl (v_index Tryd.underlying9 rfl rfl (by first | omega | (dsimp only; omega))) ?_
    refine x_bool rfl rfl rfl (v_lss rfl rfl) ?_
    intro b15 hb15
    refine x_val rfl rfl rfl (v_move rfl) ?_
    refine x_if [] rfl rfl rfl rfl rfl (fun hg => by obtain ⟨hg0, _⟩ := hg; subst hg0; (try simp only [List.cons_append, List.nil_append, gvl_nil, gvl_t, gvl_f]); exact v_move rfl) ?_
    refine x_if [] rfl rfl rfl rfl rfl (fun hg => by obtain ⟨hg0, _⟩ := hg; subst hg0; (try simp only [List.cons_append, List.nil_append, gvl_nil, gvl_t, gvl_f]); exact v_move rfl) ?_
    refine x_if [] rfl rfl rfl rfl rfl (fun hg => by obtain ⟨hg0, _⟩ := hg; subst hg0; (try simp only [List.cons_append, List.nil_append, gvl_nil, gvl_t, gvl_f]); exact v_index Tryd.underlying9 rfl rfl (by first | omega | (dsimp only; omega))) ?_
    refine x_ifb [] rfl rfl rfl rfl rfl (fun hg => by obtain ⟨hg0, _⟩ := hg; subst hg0; (try simp only [List.cons_append, List.nil_append, gvl_nil, gvl_t, gvl_f]); exact v_gtr rfl rfl) ?_
    intro b20 hb20
    refine x_bool rfl rfl rfl (v_or rfl rfl) ?_
    intro b21 hb21
    refine x_end ?_
    refine t_norm ?_
    refine w_cond rfl (fun hc21 => ?_) (fun hc21 => ?_)
    · simp only [hb21, hb20, hb15, decide_eq_true_eq, decide_eq_false_iff_not, Bool.and_eq_true, Bool.or_eq_true, Bool.and_eq_false_iff, Bool.or_eq_false_iff, Bool.not_eq_true', Bool.not_eq_false', ne_eq, Decidable.not_not] at hc21
      refine w_seq ?_
      refine rg_text ?_
      refine x_val rfl rfl rfl (v_assign rfl) ?_
      refine x_val rfl rfl rfl (v_assign rfl) ?_
      refine x_end ?_
      refine t_norm ?_
      refine w_ret ?_
      refine t_ret ?_
      refine b_ret ?_
      refine t_ret ?_
      refine t_ret ?_
      refine b_ret ?_
      refine t_ret ?_
      refine ret2 rfl rfl rfl (fun w' hm => ⟨?_, hm.base (by simp)⟩)
      rw [show numR s = (0, false) from by unfold numR; rw [if_neg (fun h => by have := h k hkl; unfold isDig at this; omega)]]
    · simp only [hb21, hb20, hb15, decide_eq_true_eq, decide_eq_false_iff_not, Bool.and_eq_true, Bool.or_eq_true, Bool.and_eq_false_iff, Bool.or_eq_false_iff, Bool.not_eq_true', Bool.not_eq_false', ne_eq, Decidable.not_not] at hc21
      have hdk : isDig (byteAt s k) := by unfold isDig; omega
      refine w_skip ?_
      refine t_norm ?_
      refine rg_text ?_
      refine x_val rfl rfl rfl (v_move rfl) ?_
      refine x_val rfl rfl rfl (v_muli rfl rfl rfl (by first | omega | (dsimp only; omega))) ?_
      refine x_val rfl rfl rfl (v_move rfl) ?_
      refine x_val rfl rfl rfl (v_move rfl) ?_
      refine x_val rfl rfl rfl (v_index Tryd.underlying9 rfl rfl (by first | omega | (dsimp only; omega))) ?_
      refine x_val rfl rfl rfl (v_sub rfl rfl) ?_
      refine x_val rfl rfl rfl (v_conv Tryd.underlying5 Tryd.underlying3 rfl) ?_
      refine x_val rfl rfl rfl (v_addi (c := 10 * a + ((byteAt s k).toNat - 48)) rfl rfl (by rw [dig_conv hdk]) (by unfold isDig at hdk; omega)) ?_
      refine x_val rfl rfl rfl (v_assign rfl) ?_
      refine x_end ?_
      refine b_norm ?_
      refine t_norm ?_
      refine rg_text ?_
      refine x_val rfl rfl rfl (v_move rfl) ?_
      refine x_val rfl rfl rfl (v_addi rfl rfl rfl (by first | omega | (dsimp only; omega))) ?_
      refine x_val rfl rfl rfl (v_assign rfl) ?_
      refine x_end ?_
      exact l_norm (k + 1, 10 * a + ((byteAt s k).toNat - 48)) ⟨by dsimp only; omega, by dsimp only; rw [ha]; rfl, fun j hj => by rcases Nat.lt_succ_iff_lt_or_eq.1 hj with h | rfl; (· exact hd j h); exact hdk⟩ (by simp only; omega) (by repeat (first | exact Sub.nil | refine Sub.cons rfl ?_)) (fun _ h => h)
  · simp only [hb9, decide_eq_true_eq, decide_eq_false_iff_not, Bool.and_eq_true, Bool.or_eq_true, Bool.and_eq_false_iff, Bool.or_eq_false_iff, Bool.not_eq_true', Bool.not_eq_false', ne_eq, Decidable.not_not] at hc9
    obtain rfl : k = s.size := by omega
    refine w_exit ?_
    refine t_exit ?_
    refine t_exit ?_
    refine b_hit ?_
    refine t_norm ?_
    refine w_seq ?_
    refine rg_text ?_
    refine x_val rfl rfl rfl (v_move rfl) ?_
    refine x_val rfl rfl rfl (v_assign rfl) ?_
    refine x_val rfl rfl rfl (v_assign rfl) ?_
    refine x_end ?_
    refine t_norm ?_
    refine w_ret ?_
    refine ret2 rfl rfl rfl (fun w' hm => ⟨?_, hm.base (by simp)⟩)
    rw [show numR s = (valTo s s.size, true) from by unfold numR; rw [if_pos (show allDig s from hd)], ha]

end Go.Proofs.YtffdbbcmibamjaaDoor

namespace Go.Proofs.YtffdbbcmibamjaaDoor
open Go.RowKit Go.PK
set_option linter.unusedVariables false
set_option linter.unusedSimpArgs false

def part (s : ByteArray) (a b : Nat) : Int × Bool := numR (s.extract a b)
def formD (s : ByteArray) : Prop := s.size = 10 ∧ byteAt s 4 = 45 ∧ byteAt s 7 = 45
instance (s : ByteArray) : Decidable (formD s) := by unfold formD; infer_instance
def readR (s : ByteArray) : Int × Int :=
  if formD s ∧ (part s 0 4).2 = true ∧ (part s 5 7).2 = true ∧ (part s 8 10).2 = true ∧ validD (part s 0 4).1 (part s 5 7).1 (part s 8 10).1 then (dayV (part s 0 4).1 (part s 5 7).1 (part s 8 10).1, 0) else (0, 11)
theorem u8_45 (c : UInt8) : (((c.toNat : Nat) : Int) = 45) ↔ c = 45 := by
  constructor
  · intro h
    have h2 : c.toNat = 45 := by omega
    exact UInt8.toNat_inj.1 h2
  · rintro rfl; rfl
theorem numR_in {s : ByteArray} (h : s.size ≤ 4) : in64 (numR s).1 := by
  unfold numR
  split
  · rename_i hd
    have := valTo_rng (k := s.size) hd
    have := pow10_le h
    unfold in64; dsimp only; omega
  · unfold in64; dsimp only; omega
theorem ext_le (s : ByteArray) {a b : Nat} (h : b - a ≤ 4) : (s.extract a b).size ≤ 4 := by rw [ByteArray.size_extract]; omega
set_option maxRecDepth 100000 in
theorem c27 (s : ByteArray) (w : World) (hs : okS s) :
    Calls Tryd.prog 27 #[.string s] w fun e w' => e = .returned (.tuple #[.int .i64 (readR s).1, .int .i64 (readR s).2]) ∧ Later w w' := by
  refine enter (vs := [.string s]) Tryd.func27 rfl Tryd.ntmps27 rfl ?_
  refine w_seq ?_
  refine rg_text ?_
  refine x_val rfl rfl rfl (v_assign rfl) ?_
  refine x_val rfl rfl rfl (v_assign rfl) ?_
  refine x_end ?_
  refine t_norm ?_
  refine w_seq ?_
  refine w_seq ?_
  refine rg_text ?_
  refine x_val rfl rfl rfl (v_move rfl) ?_
  refine x_val rfl rfl rfl (v_len_str Tryd.underlying9 rfl) ?_
  refine x_bool rfl rfl rfl (v_neq rfl rfl) ?_
  intro b14 hb14
  refine x_val rfl rfl rfl (v_move rfl) ?_
  refine x_if [] rfl rfl rfl rfl rfl (fun hg => by obtain ⟨hg0, _⟩ := hg; subst hg0; (try simp only [List.cons_append, List.nil_append, gvl_nil, gvl_t, gvl_f]); exact v_move rfl) ?_
  refine x_if [] rfl rfl rfl rfl rfl (fun hg => by obtain ⟨hg0, _⟩ := hg; subst hg0; (try simp only [List.cons_append, List.nil_append, gvl_nil, gvl_t, gvl_f]); exact v_index (j := 4) Tryd.underlying9 rfl rfl (by have h := of_decide_eq_false hb14.symm; omega)) ?_
  refine x_ifb [] rfl rfl rfl rfl rfl (fun hg => by obtain ⟨hg0, _⟩ := hg; subst hg0; (try simp only [List.cons_append, List.nil_append, gvl_nil, gvl_t, gvl_f]); exact v_neq rfl rfl) ?_
  intro b18 hb18
  refine x_bool rfl rfl rfl (v_or rfl rfl) ?_
  intro b19 hb19
  refine x_val rfl rfl rfl (v_move rfl) ?_
  refine x_if [] rfl rfl rfl rfl rfl (fun hg => by obtain ⟨hg0, _⟩ := hg; subst hg0; (try simp only [List.cons_append, List.nil_append, gvl_nil, gvl_t, gvl_f]); exact v_move rfl) ?_
  refine x_if [] rfl rfl rfl rfl rfl (fun hg => by obtain ⟨hg0, _⟩ := hg; subst hg0; (try simp only [List.cons_append, List.nil_append, gvl_nil, gvl_t, gvl_f]); exact v_index (j := 7) Tryd.underlying9 rfl rfl (by have h := (Bool.or_eq_false_iff.1 hb19.symm).1; rw [h] at hb14; have h2 := of_decide_eq_false hb14.symm; omega)) ?_
  refine x_ifb [] rfl rfl rfl rfl rfl (fun hg => by obtain ⟨hg0, _⟩ := hg; subst hg0; (try simp only [List.cons_append, List.nil_append, gvl_nil, gvl_t, gvl_f]); exact v_neq rfl rfl) ?_
  intro b23 hb23
  refine x_bool rfl rfl rfl (v_or rfl rfl) ?_
  intro b24 hb24
  refine x_end ?_
  refine t_norm ?_
  refine w_cond rfl (fun hc24 => ?_) (fun hc24 => ?_)
  · simp only [hb24, hb23, hb19, hb18, hb14, decide_eq_true_eq, decide_eq_false_iff_not, Bool.and_eq_true, Bool.or_eq_true, Bool.and_eq_false_iff, Bool.or_eq_false_iff, Bool.not_eq_true', Bool.not_eq_false', ne_eq, Decidable.not_not] at hc24
    have hf : ¬formD s := fun h => by have e4 := (u8_45 _).2 h.2.1; have e7 := (u8_45 _).2 h.2.2; have e1 := h.1; omega
    refine w_seq ?_
    refine rg_text ?_
    refine x_val rfl rfl rfl (v_assign rfl) ?_
    refine x_val rfl rfl rfl (v_assign rfl) ?_
    refine x_end ?_
    refine t_norm ?_
    refine w_ret ?_
    refine t_ret ?_
    refine ret2 rfl rfl rfl (fun w' hm => ⟨?_, hm.base (by simp)⟩)
    rw [show readR s = (0, 11) from by unfold readR; rw [if_neg (fun h => hf h.1)]]
  · simp only [hb24, hb23, hb19, hb18, hb14, decide_eq_true_eq, decide_eq_false_iff_not, Bool.and_eq_true, Bool.or_eq_true, Bool.and_eq_false_iff, Bool.or_eq_false_iff, Bool.not_eq_true', Bool.not_eq_false', ne_eq, Decidable.not_not] at hc24
    have hf : formD s := ⟨by omega, (u8_45 _).1 (by omega), (u8_45 _).1 (by omega)⟩
    have h10 := hf.1
    have e810 : s.extract 8 10 = s.extract 8 s.size := by rw [h10]
    refine w_skip ?_
    refine t_norm ?_
    refine w_seq ?_
    refine rg_text ?_
    refine x_val rfl rfl rfl (v_move rfl) ?_
    refine x_val rfl rfl rfl (v_cut_to (j := 4) Tryd.underlying9 rfl rfl (by first | omega | (dsimp only; omega))) ?_
    refine x_callv rfl rfl rfl Tryd.func47 (by kernel_rfl) rfl (fun w1 hw1 => c47 _ w1 (ext_le s (by omega))) ?_
    refine x_val rfl rfl rfl (v_move rfl) ?_
    refine x_val rfl rfl rfl (v_extract rfl rfl) ?_
    refine x_bool rfl rfl rfl (v_extract rfl rfl) ?_
    intro b30 hb30
    refine x_val rfl rfl rfl (v_assign rfl) ?_
    refine x_val rfl rfl rfl (v_assign rfl) ?_
    refine x_end ?_
    refine t_norm ?_
    refine w_seq ?_
    refine rg_text ?_
    refine x_val rfl rfl rfl (v_move rfl) ?_
    refine x_val rfl rfl rfl (v_cut (i := 5) (j := 7) Tryd.underlying9 rfl rfl rfl (by first | omega | (dsimp only; omega)) (by first | omega | (dsimp only; omega))) ?_
    refine x_callv rfl rfl rfl Tryd.func47 (by kernel_rfl) rfl (fun w1 hw1 => c47 _ w1 (ext_le s (by omega))) ?_
    refine x_val rfl rfl rfl (v_move rfl) ?_
    refine x_val rfl rfl rfl (v_extract rfl rfl) ?_
    refine x_bool rfl rfl rfl (v_extract rfl rfl) ?_
    intro b36 hb36
    refine x_val rfl rfl rfl (v_assign rfl) ?_
    refine x_val rfl rfl rfl (v_assign rfl) ?_
    refine x_end ?_
    refine t_norm ?_
    refine w_seq ?_
    refine rg_text ?_
    refine x_val rfl rfl rfl (v_move rfl) ?_
    refine x_val (v := Value.string (s.extract 8 10)) rfl rfl rfl (by rw [e810]; exact v_cut_from (i := 8) Tryd.underlying9 rfl rfl (by omega)) ?_
    refine x_callv rfl rfl rfl Tryd.func47 (by kernel_rfl) rfl (fun w1 hw1 => c47 _ w1 (ext_le s (by omega))) ?_
    refine x_val rfl rfl rfl (v_move rfl) ?_
    refine x_val rfl rfl rfl (v_extract rfl rfl) ?_
    refine x_bool rfl rfl rfl (v_extract rfl rfl) ?_
    intro b42 hb42
    refine x_val rfl rfl rfl (v_assign rfl) ?_
    refine x_val rfl rfl rfl (v_assign rfl) ?_
    refine x_end ?_
    refine t_norm ?_
    refine w_seq ?_
    refine rg_text ?_
    refine x_val rfl rfl rfl (v_move rfl) ?_
    refine x_val rfl rfl rfl (v_move rfl) ?_
    refine x_val rfl rfl rfl (v_move rfl) ?_
    refine x_callv rfl rfl rfl Tryd.func14 (by kernel_rfl) rfl (fun w1 hw1 => c14 _ _ _ w1 (numR_in (ext_le s (by omega)))) ?_
    refine x_val rfl rfl rfl (v_move rfl) ?_
    refine x_val rfl rfl rfl (v_extract rfl rfl) ?_
    refine x_bool rfl rfl rfl (v_extract rfl rfl) ?_
    intro b49 hb49
    refine x_val rfl rfl rfl (v_assign rfl) ?_
    refine x_val rfl rfl rfl (v_assign rfl) ?_
    refine x_end ?_
    refine t_norm ?_
    refine w_seq ?_
    refine w_seq ?_
    refine rg_text ?_
    refine x_val rfl rfl rfl (v_move rfl) ?_
    refine x_bool rfl rfl rfl (v_not rfl) ?_
    intro b51 hb51
    refine x_val rfl rfl rfl (v_move rfl) ?_
    refine x_if [] rfl rfl rfl rfl rfl (fun hg => by obtain ⟨hg0, _⟩ := hg; subst hg0; (try simp only [List.cons_append, List.nil_append, gvl_nil, gvl_t, gvl_f]); exact v_move rfl) ?_
    refine x_ifb [] rfl rfl rfl rfl rfl (fun hg => by obtain ⟨hg0, _⟩ := hg; subst hg0; (try simp only [List.cons_append, List.nil_append, gvl_nil, gvl_t, gvl_f]); exact v_not rfl) ?_
    intro b54 hb54
    refine x_bool rfl rfl rfl (v_or rfl rfl) ?_
    intro b55 hb55
    refine x_val rfl rfl rfl (v_move rfl) ?_
    refine x_if [] rfl rfl rfl rfl rfl (fun hg => by obtain ⟨hg0, _⟩ := hg; subst hg0; (try simp only [List.cons_append, List.nil_append, gvl_nil, gvl_t, gvl_f]); exact v_move rfl) ?_
    refine x_ifb [] rfl rfl rfl rfl rfl (fun hg => by obtain ⟨hg0, _⟩ := hg; subst hg0; (try simp only [List.cons_append, List.nil_append, gvl_nil, gvl_t, gvl_f]); exact v_not rfl) ?_
    intro b58 hb58
    refine x_bool rfl rfl rfl (v_or rfl rfl) ?_
    intro b59 hb59
    refine x_val rfl rfl rfl (v_move rfl) ?_
    refine x_if [] rfl rfl rfl rfl rfl (fun hg => by obtain ⟨hg0, _⟩ := hg; subst hg0; (try simp only [List.cons_append, List.nil_append, gvl_nil, gvl_t, gvl_f]); exact v_move rfl) ?_
    refine x_ifb [] rfl rfl rfl rfl rfl (fun hg => by obtain ⟨hg0, _⟩ := hg; subst hg0; (try simp only [List.cons_append, List.nil_append, gvl_nil, gvl_t, gvl_f]); exact v_not rfl) ?_
    intro b62 hb62
    refine x_bool rfl rfl rfl (v_or rfl rfl) ?_
    intro b63 hb63
    refine x_end ?_
    refine t_norm ?_
    refine w_cond rfl (fun hc63 => ?_) (fun hc63 => ?_)
    · have hn : ¬(formD s ∧ (part s 0 4).2 = true ∧ (part s 5 7).2 = true ∧ (part s 8 10).2 = true ∧ validD (part s 0 4).1 (part s 5 7).1 (part s 8 10).1) := fun h => by
        obtain ⟨_, h1, h2, h3, h4⟩ := h
        unfold part at h1 h2 h3 h4
        rw [hb63, hb62, hb59, hb58, hb55, hb54, hb51, hb30, hb36, hb42, hb49, h1, h2, h3, decide_eq_true h4] at hc63
        simp at hc63
      refine w_seq ?_
      refine rg_text ?_
      refine x_val rfl rfl rfl (v_assign rfl) ?_
      refine x_val rfl rfl rfl (v_assign rfl) ?_
      refine x_end ?_
      refine t_norm ?_
      refine w_ret ?_
      refine t_ret ?_
      refine ret2 rfl rfl rfl (fun w' hm => ⟨?_, hm.base (by simp)⟩)
      rw [show readR s = (0, 11) from by unfold readR; rw [if_neg hn]]
    · have hn : formD s ∧ (part s 0 4).2 = true ∧ (part s 5 7).2 = true ∧ (part s 8 10).2 = true ∧ validD (part s 0 4).1 (part s 5 7).1 (part s 8 10).1 := by
        rw [hb63, hb62, hb59, hb58, hb55, hb54, hb51, hb30, hb36, hb42, hb49] at hc63
        simp only [Bool.or_eq_false_iff, Bool.not_eq_false', decide_eq_true_eq] at hc63
        exact ⟨hf, hc63.1.1.1, hc63.1.1.2, hc63.1.2, hc63.2⟩
      refine w_skip ?_
      refine t_norm ?_
      refine w_seq ?_
      refine rg_text ?_
      refine x_val rfl rfl rfl (v_move rfl) ?_
      refine x_val rfl rfl rfl (v_assign rfl) ?_
      refine x_val rfl rfl rfl (v_assign rfl) ?_
      refine x_end ?_
      refine t_norm ?_
      refine w_ret ?_
      refine ret2 rfl rfl rfl (fun w' hm => ⟨?_, hm.base (by simp)⟩)
      rw [show readR s = (dayV (part s 0 4).1 (part s 5 7).1 (part s 8 10).1, 0) from by unfold readR; rw [if_pos hn]]; rfl

end Go.Proofs.YtffdbbcmibamjaaDoor

namespace Go.Proofs.YtffdbbcmibamjaaDoor
open Go.RowKit Go.PK
set_option linter.unusedVariables false
set_option linter.unusedSimpArgs false
set_option maxRecDepth 100000 in
theorem c40 (n m : Int) (w : World) (hn : 0 ≤ n ∧ n ≤ 9999) (hm : 0 ≤ m ∧ m ≤ 4) :
    Calls Tryd.prog 40 #[.int .i64 n, .int .i64 m] w fun e w' => e = .returned (.string (lowD n m.toNat)) ∧ Later w w' := by
  refine enter (vs := [.int .i64 n, .int .i64 m]) Tryd.func40 rfl Tryd.ntmps40 rfl ?_
  refine w_seq ?_
  refine rg_text ?_
  refine x_val rfl rfl rfl (v_assign rfl) ?_
  refine x_end ?_
  refine t_norm ?_
  refine w_seq ?_
  refine rg_text ?_
  refine x_val rfl rfl rfl (v_assign rfl) ?_
  refine x_end ?_
  refine t_norm ?_
  refine w_seq ?_
  refine w_seq ?_
  refine rg_text ?_
  refine x_val rfl rfl rfl (v_assign rfl) ?_
  refine x_end ?_
  refine t_norm ?_
  refine w_block ?_
  refine w_loop (σ := Nat × Int × ByteArray) (fun x => (x.1 : Int) ≤ m ∧ x.2.1 = n / 10 ^ x.1 ∧ x.2.2 = lowD n x.1) (fun x => [(0, Value.int .i64 x.2.1), (1, Value.int .i64 m), (5, Value.string x.2.2), (6, Value.int .i64 (x.1 : Nat))]) (fun x => []) (fun x => [(w, fun _ => True)]) (fun x => (m - x.1).toNat) ((0, n, ⟨#[]⟩)) (⟨by dsimp only; omega, by simp, rfl⟩) (l_start (by repeat (first | exact Sub.nil | refine Sub.cons rfl ?_)) (fun _ h => h)) ?_
  rintro ⟨i, a, out⟩ ⟨hi, ha, ho⟩
  refine w_state ([(0, Value.int .i64 a), (1, Value.int .i64 m), (5, Value.string out), (6, Value.int .i64 (i : Nat))]) ([]) ([(w, fun _ => True)]) ?_
  dsimp only at hi ha ho
  have ha0 : 0 ≤ a := by rw [ha]; exact Int.ediv_nonneg hn.1 (Int.le_of_lt (Int.pow_pos (by decide)))
  have ha1 : a ≤ n := by rw [ha]; exact Int.ediv_le_self _ hn.1
  have hos : out.size = i := by rw [ho, lowD_size]
  have ht := Int.tmod_eq_emod_of_nonneg (b := 10) ha0
  refine w_seq ?_
  refine w_seq ?_
  refine rg_text ?_
  refine x_val rfl rfl rfl (v_move rfl) ?_
  refine x_val rfl rfl rfl (v_move rfl) ?_
  refine x_bool rfl rfl rfl (v_lss rfl rfl) ?_
  intro b9 hb9
  refine x_end ?_
  refine t_norm ?_
  refine w_cond rfl (fun hc9 => ?_) (fun hc9 => ?_)
  · simp only [hb9, decide_eq_true_eq, decide_eq_false_iff_not, Bool.and_eq_true, Bool.or_eq_true, Bool.and_eq_false_iff, Bool.or_eq_false_iff, Bool.not_eq_true', Bool.not_eq_false', ne_eq, Decidable.not_not] at hc9
    skip
    refine w_skip ?_
    refine t_norm ?_
    refine w_seq ?_
    refine w_block ?_
    refine w_seq ?_
    refine rg_text ?_
    refine x_val rfl rfl rfl (v_move rfl) ?_
    refine x_val rfl rfl rfl (v_rem rfl rfl (by first | omega | (dsimp only; omega))) ?_
    refine x_val rfl rfl rfl (v_addi rfl rfl rfl (by first | omega | (dsimp only; omega))) ?_
    refine x_val (v := Value.int .u8 ((UInt8.ofNat (48 + (a % 10).toNat)).toNat : Nat)) rfl rfl rfl (by rw [← dig_c ha0]; exact v_conv Tryd.underlying3 Tryd.underlying5 rfl) ?_
    refine x_buildSliceL rfl rfl rfl Tryd.underlying35 sz5 zr5 rfl rfl rfl ?_
    intro p16
    refine x_val rfl rfl rfl (v_toStr [UInt8.ofNat (48 + (a % 10).toNat)] Tryd.underlying35 Tryd.underlying5 Tryd.underlying9 rfl rfl (fun j hj => at_ownL (vs := [Value.int .u8 (UInt8.ofNat (48 + (a % 10).toNat)).toNat]) (.head _) (by match j, hj with | 0, _ => rfl))) ?_
    refine x_val rfl rfl rfl (v_move rfl) ?_
    refine x_val rfl rfl rfl (v_sadd rfl rfl (by rw [hos]; show 1 + i ≤ _; omega)) ?_
    refine x_val rfl rfl rfl (v_assign rfl) ?_
    refine x_end ?_
    refine t_norm ?_
    refine rg_text ?_
    refine x_val rfl rfl rfl (v_move rfl) ?_
    refine x_val rfl rfl rfl (v_quoi (c := a / 10) rfl rfl (by decide) (Int.tdiv_eq_ediv_of_nonneg ha0) (by omega)) ?_
    refine x_val rfl rfl rfl (v_assign rfl) ?_
    refine x_end ?_
    refine b_norm ?_
    refine t_norm ?_
    refine rg_text ?_
    refine x_val rfl rfl rfl (v_move rfl) ?_
    refine x_val rfl rfl rfl (v_addi rfl rfl rfl (by first | omega | (dsimp only; omega))) ?_
    refine x_val rfl rfl rfl (v_assign rfl) ?_
    refine x_end ?_
    exact l_norm (i + 1, a / 10, ⟨#[UInt8.ofNat (48 + (a % 10).toNat)]⟩ ++ out) ⟨by dsimp only; omega, by dsimp only; rw [ha, Int.ediv_ediv_of_nonneg (Int.le_of_lt (Int.pow_pos (by decide))), Int.pow_succ], by dsimp only; rw [ho, ha]; rfl⟩ (by simp only; omega) (by repeat (first | exact Sub.nil | refine Sub.cons rfl ?_)) (fun _ h => h.less (List.sublist_cons_self _ _) (fun _ h => h))
  · simp only [hb9, decide_eq_true_eq, decide_eq_false_iff_not, Bool.and_eq_true, Bool.or_eq_true, Bool.and_eq_false_iff, Bool.or_eq_false_iff, Bool.not_eq_true', Bool.not_eq_false', ne_eq, Decidable.not_not] at hc9
    refine w_exit ?_
    refine t_exit ?_
    refine t_exit ?_
    refine b_hit ?_
    refine t_norm ?_
    refine w_seq ?_
    refine rg_text ?_
    refine x_val rfl rfl rfl (v_move rfl) ?_
    refine x_val rfl rfl rfl (v_assign rfl) ?_
    refine x_end ?_
    refine t_norm ?_
    refine w_ret ?_
    refine ret1 rfl rfl (fun w' hm => ⟨?_, hm.base (by simp)⟩)
    rw [ho, show m.toNat = i by omega]
set_option maxRecDepth 100000 in
theorem c20 (n : Int) (w : World) (hn : in64 n) :
    Calls Tryd.prog 20 #[.int .i64 n] w fun e w' => e = .returned (.string (textR n)) ∧ Later w w' := by
  refine enter (vs := [.int .i64 n]) Tryd.func20 rfl Tryd.ntmps20 rfl ?_
  refine w_seq ?_
  refine rg_text ?_
  refine x_val rfl rfl rfl (v_assign rfl) ?_
  refine x_end ?_
  refine t_norm ?_
  refine w_seq ?_
  refine rg_text ?_
  refine x_val rfl rfl rfl (v_move rfl) ?_
  refine x_callb rfl rfl rfl Tryd.func39 (by kernel_rfl) rfl (fun w1 hw1 => c39 _ w1) ?_
  intro b8 hb8
  refine x_val rfl rfl rfl (v_assign rfl) ?_
  refine x_end ?_
  refine t_norm ?_
  refine w_seq ?_
  refine w_seq ?_
  refine rg_text ?_
  refine x_val rfl rfl rfl (v_move rfl) ?_
  refine x_bool rfl rfl rfl (v_not rfl) ?_
  intro b10 hb10
  refine x_end ?_
  refine t_norm ?_
  refine w_cond rfl (fun hc10 => ?_) (fun hc10 => ?_)
  · simp only [hb10, hb8, decide_eq_true_eq, decide_eq_false_iff_not, Bool.and_eq_true, Bool.or_eq_true, Bool.and_eq_false_iff, Bool.or_eq_false_iff, Bool.not_eq_true', Bool.not_eq_false', ne_eq, Decidable.not_not] at hc10
    have ho : ¬okDay n := by simpa using hc10
    refine w_seq ?_
    refine rg_text ?_
    refine x_val rfl rfl rfl (v_assign rfl) ?_
    refine x_end ?_
    refine t_norm ?_
    refine w_ret ?_
    refine t_ret ?_
    refine ret1 rfl rfl (fun w' hm => ⟨?_, hm.base (by simp)⟩)
    unfold textR; rw [if_neg ho]
  · simp only [hb10, hb8, decide_eq_true_eq, decide_eq_false_iff_not, Bool.and_eq_true, Bool.or_eq_true, Bool.and_eq_false_iff, Bool.or_eq_false_iff, Bool.not_eq_true', Bool.not_eq_false', ne_eq, Decidable.not_not] at hc10
    have ho : okDay n := by simpa using hc10
    obtain ⟨y1, y2, m1, m2, d1, d2⟩ := civ_rng ho
    refine w_skip ?_
    refine t_norm ?_
    refine w_seq ?_
    refine rg_text ?_
    refine x_val rfl rfl rfl (v_move rfl) ?_
    refine x_callv rfl rfl rfl Tryd.func16 (by kernel_rfl) rfl (fun w1 hw1 => c16 _ w1 hn) ?_
    refine x_val rfl rfl rfl (v_move rfl) ?_
    refine x_val rfl rfl rfl (v_extract rfl rfl) ?_
    refine x_val rfl rfl rfl (v_extract rfl rfl) ?_
    refine x_val rfl rfl rfl (v_extract rfl rfl) ?_
    refine x_val rfl rfl rfl (v_assign rfl) ?_
    refine x_val rfl rfl rfl (v_assign rfl) ?_
    refine x_val rfl rfl rfl (v_assign rfl) ?_
    refine x_end ?_
    refine t_norm ?_
    refine w_seq ?_
    refine rg_text ?_
    refine x_val rfl rfl rfl (v_move rfl) ?_
    refine x_callv rfl rfl rfl Tryd.func40 (by kernel_rfl) rfl (fun w1 hw1 => c40 _ _ w1 ⟨by omega, by omega⟩ ⟨by omega, by omega⟩) ?_
    refine x_val rfl rfl rfl (v_sadd rfl rfl (by simp only [ByteArray.size_append, lowD_size]; decide)) ?_
    refine x_val rfl rfl rfl (v_move rfl) ?_
    refine x_callv rfl rfl rfl Tryd.func40 (by kernel_rfl) rfl (fun w1 hw1 => c40 _ _ w1 ⟨by omega, by omega⟩ ⟨by omega, by omega⟩) ?_
    refine x_val rfl rfl rfl (v_sadd rfl rfl (by simp only [ByteArray.size_append, lowD_size]; decide)) ?_
    refine x_val rfl rfl rfl (v_sadd rfl rfl (by simp only [ByteArray.size_append, lowD_size]; decide)) ?_
    refine x_val rfl rfl rfl (v_move rfl) ?_
    refine x_callv rfl rfl rfl Tryd.func40 (by kernel_rfl) rfl (fun w1 hw1 => c40 _ _ w1 ⟨by omega, by omega⟩ ⟨by omega, by omega⟩) ?_
    refine x_val rfl rfl rfl (v_sadd rfl rfl (by simp only [ByteArray.size_append, lowD_size]; decide)) ?_
    refine x_val rfl rfl rfl (v_assign rfl) ?_
    refine x_end ?_
    refine t_norm ?_
    refine w_ret ?_
    refine ret1 rfl rfl (fun w' hm => ⟨?_, hm.base (by simp)⟩)
    unfold textR; rw [if_pos ho]; rfl

end Go.Proofs.YtffdbbcmibamjaaDoor
