/- Of the proofs of YtaniaihoodgmpaaGreatDoor: Facts Wa Wb Wc, put together. -/
import Derived.Test.YtaniaihoodgmpaaGreatDoorRows
import Derived.Test.YtaniaihoodgmpaaGreatDoorM1
import Derived.Test.YtaniaihoodgmpaaGreatDoorM2
set_option linter.unusedVariables false
set_option linter.unusedSimpArgs false
set_option maxRecDepth 100000

namespace Go.Proofs.YtaniaihoodgmpaaGreatDoor
abbrev u1 := @Tryz.underlying1
abbrev u2 := @Tryz.underlying2
abbrev u3 := @Tryz.underlying3
abbrev u4 := @Tryz.underlying4
abbrev u5 := @Tryz.underlying5
abbrev u8 := @Tryz.underlying8
abbrev u9 := @Tryz.underlying9
abbrev u22 := @Tryz.underlying22
abbrev u23 := @Tryz.underlying23
abbrev u26 := @Tryz.underlying26
abbrev u28 := @Tryz.underlying28
abbrev u34 := @Tryz.underlying34
abbrev u40 := @Tryz.underlying40
abbrev u45 := @Tryz.underlying45
abbrev u48 := @Tryz.underlying48
abbrev u55 := @Tryz.underlying55
abbrev u59 := @Tryz.underlying59
abbrev u61 := @Tryz.underlying61
abbrev u64 := @Tryz.underlying64
abbrev u85 := @Tryz.underlying85
abbrev u107 := @Tryz.underlying107
abbrev u112 := @Tryz.underlying112
abbrev u128 := @Tryz.underlying128
abbrev u130 := @Tryz.underlying130
abbrev u170 := @Tryz.underlying170
abbrev u190 := @Tryz.underlying190
abbrev u192 := @Tryz.underlying192
theorem sz3 : (Tryz.prog.info? 3).map (·.size) = some 1 := by kernel_rfl
theorem zr3 : (Tryz.prog.info? 3).bind (·.zero) = some (.int .i64 0) := by kernel_rfl
theorem sz4 : (Tryz.prog.info? 4).map (·.size) = some 1 := by kernel_rfl
theorem zr4 : (Tryz.prog.info? 4).bind (·.zero) = some (.bool false) := by kernel_rfl
theorem sz5 : (Tryz.prog.info? 5).map (·.size) = some 1 := by kernel_rfl
theorem zr5 : (Tryz.prog.info? 5).bind (·.zero) = some (.int .u8 0) := by kernel_rfl
theorem sz9 : (Tryz.prog.info? 9).map (·.size) = some 1 := by kernel_rfl
theorem zr9 : (Tryz.prog.info? 9).bind (·.zero) = some (.string ⟨#[]⟩) := by kernel_rfl
theorem sz22 : (Tryz.prog.info? 22).map (·.size) = some 1 := by kernel_rfl
theorem sz26 : (Tryz.prog.info? 26).map (·.size) = some 4 := by kernel_rfl
theorem zr26 : (Tryz.prog.info? 26).bind (·.zero) = some (.agg #[.int .i64 0, .int .i64 0, .slice none 0 0, .slice none 0 0]) := by kernel_rfl
theorem sz34 : (Tryz.prog.info? 34).map (·.size) = some 6 := by kernel_rfl
theorem sz45 : (Tryz.prog.info? 45).map (·.size) = some 1 := by kernel_rfl
theorem zr45 : (Tryz.prog.info? 45).bind (·.zero) = some (.slice none 0 0) := by kernel_rfl
theorem sz48 : (Tryz.prog.info? 48).map (·.size) = some 2 := by kernel_rfl
theorem zr48 : (Tryz.prog.info? 48).bind (·.zero) = some (.agg #[.slice none 0 0, .int .i64 0]) := by kernel_rfl
theorem sz59 : (Tryz.prog.info? 59).map (·.size) = some 1 := by kernel_rfl
theorem zr61 : (Tryz.prog.info? 61).bind (·.zero) = some (.agg #[.int .i64 0, .int .i64 0, .slice none 0 0, .slice none 0 0, .slice none 0 0]) := by kernel_rfl
theorem sz85 : (Tryz.prog.info? 85).map (·.size) = some 4 := by kernel_rfl
theorem zr85 : (Tryz.prog.info? 85).bind (·.zero) = some (.agg #[.int .i64 0, .int .i64 0, .bool false, .int .i64 0]) := by kernel_rfl
theorem sz107 : (Tryz.prog.info? 107).map (·.size) = some 1 := by kernel_rfl
theorem sz128 : (Tryz.prog.info? 128).map (·.size) = some 1 := by kernel_rfl
theorem sz130 : (Tryz.prog.info? 130).map (·.size) = some 2 := by kernel_rfl
theorem zr130 : (Tryz.prog.info? 130).bind (·.zero) = some (.agg #[.pointer none, .slice none 0 0]) := by kernel_rfl
open Go.RowKit Go.PK
theorem tmod0 {a m : Int} : (a.tmod m = 0) = (a % m = 0) := by
 rw [eq_iff_iff, ← Int.dvd_iff_tmod_eq_zero, ← Int.dvd_iff_emod_eq_zero]
theorem leap_a (y : Int) : (decide (y.tmod 4 = 0) && (decide (y.tmod 100 ≠ 0) || decide (y.tmod 400 = 0))) = leapP y := by
 rw [Bool.eq_iff_iff]; simp [leapP, tmod0]
theorem leap_b (y : Int) : (decide (y.tmod 4 = 0) && decide (y.tmod 100 ≠ 0) || decide (y.tmod 400 = 0)) = leapP y := by
 rw [Bool.eq_iff_iff]; simp [leapP, tmod0]; omega
theorem ok_dec (n : Int) : (decide (-719162 ≤ n) && decide (n ≤ 2932896)) = decide (okDay n) := by
 rw [Bool.eq_iff_iff, Bool.and_eq_true, decide_eq_true_iff, decide_eq_true_iff, decide_eq_true_iff]; exact Iff.rfl
theorem c48 (y : Int) (w : World) (hy : in64 y) :
  Calls Tryz.prog 139 #[.int .i64 y] w fun e w' => e = .returned (.bool (leapP y)) ∧ Later w w' := by
 refine enter (vs := [.int .i64 y]) Tryz.func139 rfl Tryz.ntmps139 rfl ?_
 refine Zs (Zr ?_)
 refine Xa ?_
 refine Ze (Zt (Zs (Zr ?_)))
 refine Xm ?_
 refine Xv rfl (v_rem rfl rfl Zo) ?_
 refine Xb rfl (v_eql rfl rfl) fun b5 hb5 => ?_
 refine Xm ?_
 refine Xg ?_
 refine Xi rfl rfl rfl (fun hg0 => by subst hg0; (try simp only [Qy]); exact v_rem rfl rfl Zo) ?_
 refine Xj rfl rfl rfl (fun hg0 => by subst hg0; (try simp only [Qy]); exact v_neq rfl rfl) fun b9 hb9 => ?_
 refine Xg ?_
 refine x_if [(b5, true)] rfl rfl rfl rfl rfl (fun hg => by obtain ⟨hg0, hg1, _⟩ := hg; subst hg0; subst hg1; (try simp only [Qy]); exact v_move rfl) ?_
 refine x_if [(b5, true)] rfl rfl rfl rfl rfl (fun hg => by obtain ⟨hg0, hg1, _⟩ := hg; subst hg0; subst hg1; (try simp only [Qy]); exact v_rem rfl rfl Zo) ?_
 refine x_ifb [(b5, true)] rfl rfl rfl rfl rfl (fun hg => by obtain ⟨hg0, hg1, _⟩ := hg; subst hg0; subst hg1; (try simp only [Qy]); exact v_eql rfl rfl) fun b13 hb13 => ?_
 refine Xj rfl rfl rfl (fun hg0 => by subst hg0; (try simp only [Qy]); exact v_or rfl rfl) fun b14 hb14 => ?_
 refine Xb rfl (v_and rfl rfl) fun b15 hb15 => ?_
 refine Xa ?_
 refine Ze (Zt (w_ret ?_))
 refine ret1 rfl rfl (fun w' hm => ⟨?_, hm.base (by simp)⟩)
 rw [hb15, hb14, hb13, hb9, hb5, leap_a]
theorem c49 (y : Int) (w : World) (hy : in64 y) :
  Calls Tryz.prog 135 #[.int .i64 y] w fun e w' => e = .returned (.bool (leapP y)) ∧ Later w w' := by
 refine enter (vs := [.int .i64 y]) Tryz.func135 rfl Tryz.ntmps135 rfl ?_
 refine Zs (Zr ?_)
 refine Xa ?_
 refine Ze (Zt (Zs (Zr ?_)))
 refine Xm ?_
 refine Xv rfl (v_rem rfl rfl Zo) ?_
 refine Xb rfl (v_eql rfl rfl) fun b5 hb5 => ?_
 refine Xm ?_
 refine Xg ?_
 refine Xi rfl rfl rfl (fun hg0 => by subst hg0; (try simp only [Qy]); exact v_rem rfl rfl Zo) ?_
 refine Xj rfl rfl rfl (fun hg0 => by subst hg0; (try simp only [Qy]); exact v_neq rfl rfl) fun b9 hb9 => ?_
 refine Xb rfl (v_and rfl rfl) fun b10 hb10 => ?_
 refine Xm ?_
 refine Xg ?_
 refine Xi rfl rfl rfl (fun hg0 => by subst hg0; (try simp only [Qy]); exact v_rem rfl rfl Zo) ?_
 refine Xj rfl rfl rfl (fun hg0 => by subst hg0; (try simp only [Qy]); exact v_eql rfl rfl) fun b14 hb14 => ?_
 refine Xb rfl (v_or rfl rfl) fun b15 hb15 => ?_
 refine Xa ?_
 refine Ze (Zt (w_ret ?_))
 refine ret1 rfl rfl (fun w' hm => ⟨?_, hm.base (by simp)⟩)
 rw [hb15, hb14, hb10, hb9, hb5, leap_b]
theorem c33 (y m : Int) (w : World) (hy : in64 y) :
  Calls Tryz.prog 122 #[.int .i64 y, .int .i64 m] w fun e w' => e = .returned (.int .i64 (mlen y m)) ∧ Later w w' := by
 refine enter (vs := [.int .i64 y, .int .i64 m]) Tryz.func122 rfl Tryz.ntmps122 rfl ?_
 refine Zs (Zr ?_)
 refine Xa ?_
 refine Ze (Zt (Zs (Zs (Zr ?_))))
 refine Xm ?_
 refine Ze (Zt (w_block (Zs (Zs (Zr ?_)))))
 refine Xb rfl (v_eql rfl rfl) fun b7 hb7 => ?_
 refine Xa ?_
 refine Ze (Zt ?_)
 refine w_cond rfl (fun hc6 => ?_) (fun hc6 => ?_)
 ·simp only [hb7, Qz, ne_eq] at hc6
  refine w_skip (Zt ?_)
  refine w_cond rfl (fun hc6 => ?_) (fun hc6 => ?_)
  ·simp only [hb7, Qz, ne_eq] at hc6
   refine Zs (Zr ?_)
   refine Xa ?_
   refine Ze (Zt (w_ret (b_ret (t_ret ?_))))
   refine ret1 rfl rfl (fun w' hm => ⟨?_, hm.base (by simp)⟩)
   first | (exfalso; omega) | (unfold mlen; (repeat (first | rw [if_pos (by first | omega | assumption)] | rw [if_neg (by first | omega | (simp only [*]; exact Bool.false_ne_true))])))
  simp only [hb7, Qz, ne_eq] at hc6
  refine Zs (Zr ?_)
  refine Xb rfl (v_eql rfl rfl) fun b12 hb12 => ?_
  refine Xa ?_
  refine Ze (Zt ?_)
  refine w_cond rfl (fun hc11 => ?_) (fun hc11 => ?_)
  ·simp only [hb12, Qz, ne_eq] at hc11
   refine Zs (Zs (Zr ?_))
   refine Xm ?_
   refine x_callb rfl rfl rfl Tryz.func139 Zk rfl (fun w1 hw1 => c48 _ w1 hy) fun b14 hb14 => ?_
   refine Ze (Zt ?_)
   refine w_cond rfl (fun hc14 => ?_) (fun hc14 => ?_)
   ·simp only [hb14, Qz, ne_eq] at hc14
    refine Zs (Zr ?_)
    refine Xa ?_
    refine Ze (Zt (w_ret (t_ret (b_ret (t_ret ?_)))))
    refine ret1 rfl rfl (fun w' hm => ⟨?_, hm.base (by simp)⟩)
    first | (exfalso; omega) | (unfold mlen; (repeat (first | rw [if_pos (by first | omega | assumption)] | rw [if_neg (by first | omega | (simp only [*]; exact Bool.false_ne_true))])))
   simp only [hb14, Qz, ne_eq] at hc14
   refine w_skip (Zt (Zs (Zr ?_)))
   refine Xa ?_
   refine Ze (Zt (w_ret (b_ret (t_ret ?_))))
   refine ret1 rfl rfl (fun w' hm => ⟨?_, hm.base (by simp)⟩)
   first | (exfalso; omega) | (unfold mlen; (repeat (first | rw [if_pos (by first | omega | assumption)] | rw [if_neg (by first | omega | (simp only [*]; exact Bool.false_ne_true))])))
  simp only [hb12, Qz, ne_eq] at hc11
  refine w_skip (b_norm (Zt (Zs (Zr ?_))))
  refine Xa ?_
  refine Ze (Zt (w_ret ?_))
  refine ret1 rfl rfl (fun w' hm => ⟨?_, hm.base (by simp)⟩)
  first | (exfalso; omega) | (unfold mlen; (repeat (first | rw [if_pos (by first | omega | assumption)] | rw [if_neg (by first | omega | (simp only [*]; exact Bool.false_ne_true))])))
 simp only [hb7, Qz, ne_eq] at hc6
 refine Zs (Zr ?_)
 refine Xb rfl (v_eql rfl rfl) fun b8 hb8 => ?_
 refine Xa ?_
 refine Ze (Zt ?_)
 refine w_cond rfl (fun hc6 => ?_) (fun hc6 => ?_)
 ·simp only [hb8, Qz, ne_eq] at hc6
  refine w_skip (Zt ?_)
  refine w_cond rfl (fun hc6 => ?_) (fun hc6 => ?_)
  ·simp only [hb8, Qz, ne_eq] at hc6
   refine Zs (Zr ?_)
   refine Xa ?_
   refine Ze (Zt (w_ret (b_ret (t_ret ?_))))
   refine ret1 rfl rfl (fun w' hm => ⟨?_, hm.base (by simp)⟩)
   first | (exfalso; omega) | (unfold mlen; (repeat (first | rw [if_pos (by first | omega | assumption)] | rw [if_neg (by first | omega | (simp only [*]; exact Bool.false_ne_true))])))
  simp only [hb8, Qz, ne_eq] at hc6
  refine Zs (Zr ?_)
  refine Xb rfl (v_eql rfl rfl) fun b12 hb12 => ?_
  refine Xa ?_
  refine Ze (Zt ?_)
  refine w_cond rfl (fun hc11 => ?_) (fun hc11 => ?_)
  ·simp only [hb12, Qz, ne_eq] at hc11
   refine Zs (Zs (Zr ?_))
   refine Xm ?_
   refine x_callb rfl rfl rfl Tryz.func139 Zk rfl (fun w1 hw1 => c48 _ w1 hy) fun b14 hb14 => ?_
   refine Ze (Zt ?_)
   refine w_cond rfl (fun hc14 => ?_) (fun hc14 => ?_)
   ·simp only [hb14, Qz, ne_eq] at hc14
    refine Zs (Zr ?_)
    refine Xa ?_
    refine Ze (Zt (w_ret (t_ret (b_ret (t_ret ?_)))))
    refine ret1 rfl rfl (fun w' hm => ⟨?_, hm.base (by simp)⟩)
    first | (exfalso; omega) | (unfold mlen; (repeat (first | rw [if_pos (by first | omega | assumption)] | rw [if_neg (by first | omega | (simp only [*]; exact Bool.false_ne_true))])))
   simp only [hb14, Qz, ne_eq] at hc14
   refine w_skip (Zt (Zs (Zr ?_)))
   refine Xa ?_
   refine Ze (Zt (w_ret (b_ret (t_ret ?_))))
   refine ret1 rfl rfl (fun w' hm => ⟨?_, hm.base (by simp)⟩)
   first | (exfalso; omega) | (unfold mlen; (repeat (first | rw [if_pos (by first | omega | assumption)] | rw [if_neg (by first | omega | (simp only [*]; exact Bool.false_ne_true))])))
  simp only [hb12, Qz, ne_eq] at hc11
  refine w_skip (b_norm (Zt (Zs (Zr ?_))))
  refine Xa ?_
  refine Ze (Zt (w_ret ?_))
  refine ret1 rfl rfl (fun w' hm => ⟨?_, hm.base (by simp)⟩)
  first | (exfalso; omega) | (unfold mlen; (repeat (first | rw [if_pos (by first | omega | assumption)] | rw [if_neg (by first | omega | (simp only [*]; exact Bool.false_ne_true))])))
 simp only [hb8, Qz, ne_eq] at hc6
 refine Zs (Zr ?_)
 refine Xb rfl (v_eql rfl rfl) fun b9 hb9 => ?_
 refine Xa ?_
 refine Ze (Zt ?_)
 refine w_cond rfl (fun hc6 => ?_) (fun hc6 => ?_)
 ·simp only [hb9, Qz, ne_eq] at hc6
  refine w_skip (Zt ?_)
  refine w_cond rfl (fun hc6 => ?_) (fun hc6 => ?_)
  ·simp only [hb9, Qz, ne_eq] at hc6
   refine Zs (Zr ?_)
   refine Xa ?_
   refine Ze (Zt (w_ret (b_ret (t_ret ?_))))
   refine ret1 rfl rfl (fun w' hm => ⟨?_, hm.base (by simp)⟩)
   first | (exfalso; omega) | (unfold mlen; (repeat (first | rw [if_pos (by first | omega | assumption)] | rw [if_neg (by first | omega | (simp only [*]; exact Bool.false_ne_true))])))
  simp only [hb9, Qz, ne_eq] at hc6
  refine Zs (Zr ?_)
  refine Xb rfl (v_eql rfl rfl) fun b12 hb12 => ?_
  refine Xa ?_
  refine Ze (Zt ?_)
  refine w_cond rfl (fun hc11 => ?_) (fun hc11 => ?_)
  ·simp only [hb12, Qz, ne_eq] at hc11
   refine Zs (Zs (Zr ?_))
   refine Xm ?_
   refine x_callb rfl rfl rfl Tryz.func139 Zk rfl (fun w1 hw1 => c48 _ w1 hy) fun b14 hb14 => ?_
   refine Ze (Zt ?_)
   refine w_cond rfl (fun hc14 => ?_) (fun hc14 => ?_)
   ·simp only [hb14, Qz, ne_eq] at hc14
    refine Zs (Zr ?_)
    refine Xa ?_
    refine Ze (Zt (w_ret (t_ret (b_ret (t_ret ?_)))))
    refine ret1 rfl rfl (fun w' hm => ⟨?_, hm.base (by simp)⟩)
    first | (exfalso; omega) | (unfold mlen; (repeat (first | rw [if_pos (by first | omega | assumption)] | rw [if_neg (by first | omega | (simp only [*]; exact Bool.false_ne_true))])))
   simp only [hb14, Qz, ne_eq] at hc14
   refine w_skip (Zt (Zs (Zr ?_)))
   refine Xa ?_
   refine Ze (Zt (w_ret (b_ret (t_ret ?_))))
   refine ret1 rfl rfl (fun w' hm => ⟨?_, hm.base (by simp)⟩)
   first | (exfalso; omega) | (unfold mlen; (repeat (first | rw [if_pos (by first | omega | assumption)] | rw [if_neg (by first | omega | (simp only [*]; exact Bool.false_ne_true))])))
  simp only [hb12, Qz, ne_eq] at hc11
  refine w_skip (b_norm (Zt (Zs (Zr ?_))))
  refine Xa ?_
  refine Ze (Zt (w_ret ?_))
  refine ret1 rfl rfl (fun w' hm => ⟨?_, hm.base (by simp)⟩)
  first | (exfalso; omega) | (unfold mlen; (repeat (first | rw [if_pos (by first | omega | assumption)] | rw [if_neg (by first | omega | (simp only [*]; exact Bool.false_ne_true))])))
 simp only [hb9, Qz, ne_eq] at hc6
 refine Zr ?_
 refine Xb rfl (v_eql rfl rfl) fun b10 hb10 => ?_
 refine Xa ?_
 refine Ze (Zt ?_)
 refine w_cond rfl (fun hc6 => ?_) (fun hc6 => ?_)
 ·simp only [hb10, Qz, ne_eq] at hc6
  refine Zs (Zr ?_)
  refine Xa ?_
  refine Ze (Zt (w_ret (b_ret (t_ret ?_))))
  refine ret1 rfl rfl (fun w' hm => ⟨?_, hm.base (by simp)⟩)
  first | (exfalso; omega) | (unfold mlen; (repeat (first | rw [if_pos (by first | omega | assumption)] | rw [if_neg (by first | omega | (simp only [*]; exact Bool.false_ne_true))])))
 simp only [hb10, Qz, ne_eq] at hc6
 refine Zs (Zr ?_)
 refine Xb rfl (v_eql rfl rfl) fun b12 hb12 => ?_
 refine Xa ?_
 refine Ze (Zt ?_)
 refine w_cond rfl (fun hc11 => ?_) (fun hc11 => ?_)
 ·simp only [hb12, Qz, ne_eq] at hc11
  refine Zs (Zs (Zr ?_))
  refine Xm ?_
  refine x_callb rfl rfl rfl Tryz.func139 Zk rfl (fun w1 hw1 => c48 _ w1 hy) fun b14 hb14 => ?_
  refine Ze (Zt ?_)
  refine w_cond rfl (fun hc14 => ?_) (fun hc14 => ?_)
  ·simp only [hb14, Qz, ne_eq] at hc14
   refine Zs (Zr ?_)
   refine Xa ?_
   refine Ze (Zt (w_ret (t_ret (b_ret (t_ret ?_)))))
   refine ret1 rfl rfl (fun w' hm => ⟨?_, hm.base (by simp)⟩)
   first | (exfalso; omega) | (unfold mlen; (repeat (first | rw [if_pos (by first | omega | assumption)] | rw [if_neg (by first | omega | (simp only [*]; exact Bool.false_ne_true))])))
  simp only [hb14, Qz, ne_eq] at hc14
  refine w_skip (Zt (Zs (Zr ?_)))
  refine Xa ?_
  refine Ze (Zt (w_ret (b_ret (t_ret ?_))))
  refine ret1 rfl rfl (fun w' hm => ⟨?_, hm.base (by simp)⟩)
  first | (exfalso; omega) | (unfold mlen; (repeat (first | rw [if_pos (by first | omega | assumption)] | rw [if_neg (by first | omega | (simp only [*]; exact Bool.false_ne_true))])))
 simp only [hb12, Qz, ne_eq] at hc11
 refine w_skip (b_norm (Zt (Zs (Zr ?_))))
 refine Xa ?_
 refine Ze (Zt (w_ret ?_))
 refine ret1 rfl rfl (fun w' hm => ⟨?_, hm.base (by simp)⟩)
 first | (exfalso; omega) | (unfold mlen; (repeat (first | rw [if_pos (by first | omega | assumption)] | rw [if_neg (by first | omega | (simp only [*]; exact Bool.false_ne_true))])))
theorem c35 (y m : Int) (w : World) (hy : in64 y) :
  Calls Tryz.prog 114 #[.int .i64 y, .int .i64 m] w fun e w' => e = .returned (.int .i64 (mlen y m)) ∧ Later w w' := by
 refine enter (vs := [.int .i64 y, .int .i64 m]) Tryz.func114 rfl Tryz.ntmps114 rfl ?_
 refine Zs (Zr ?_)
 refine Xa ?_
 refine Ze (Zt (Zs (Zs (Zr ?_))))
 refine Xm ?_
 refine Xb rfl (v_eql rfl rfl) fun b7 hb7 => ?_
 refine Xm ?_
 refine Xg ?_
 refine Xj rfl rfl rfl (fun hg0 => by subst hg0; (try simp only [Qy]); exact v_eql rfl rfl) fun b10 hb10 => ?_
 refine Xb rfl (v_or rfl rfl) fun b11 hb11 => ?_
 refine Xm ?_
 refine Xg ?_
 refine Xj rfl rfl rfl (fun hg0 => by subst hg0; (try simp only [Qy]); exact v_eql rfl rfl) fun b14 hb14 => ?_
 refine Xb rfl (v_or rfl rfl) fun b15 hb15 => ?_
 refine Xm ?_
 refine Xg ?_
 refine Xj rfl rfl rfl (fun hg0 => by subst hg0; (try simp only [Qy]); exact v_eql rfl rfl) fun b18 hb18 => ?_
 refine Xb rfl (v_or rfl rfl) fun b19 hb19 => ?_
 refine Ze (Zt ?_)
 refine w_cond rfl (fun hc19 => ?_) (fun hc19 => ?_)
 ·simp only [hb19, hb18, hb15, hb14, hb11, hb10, hb7, Qz, ne_eq] at hc19
  refine Zs (Zr ?_)
  refine Xa ?_
  refine Ze (Zt (w_ret (t_ret ?_)))
  refine ret1 rfl rfl (fun w' hm => ⟨?_, hm.base (by simp)⟩)
  first | (exfalso; omega) | (unfold mlen; (repeat (first | rw [if_pos (by first | omega | assumption)] | rw [if_neg (by first | omega | (simp only [*]; exact Bool.false_ne_true))])))
 simp only [hb19, hb18, hb15, hb14, hb11, hb10, hb7, Qz, ne_eq] at hc19
 refine w_skip (Zt (Zs (Zs (Zr ?_))))
 refine Xm ?_
 refine Xb rfl (v_neq rfl rfl) fun b21 hb21 => ?_
 refine Ze (Zt ?_)
 refine w_cond rfl (fun hc21 => ?_) (fun hc21 => ?_)
 ·simp only [hb21, Qz, ne_eq] at hc21
  refine Zs (Zr ?_)
  refine Xa ?_
  refine Ze (Zt (w_ret (t_ret ?_)))
  refine ret1 rfl rfl (fun w' hm => ⟨?_, hm.base (by simp)⟩)
  first | (exfalso; omega) | (unfold mlen; (repeat (first | rw [if_pos (by first | omega | assumption)] | rw [if_neg (by first | omega | (simp only [*]; exact Bool.false_ne_true))])))
 simp only [hb21, Qz, ne_eq] at hc21
 refine w_skip (Zt (Zs (Zr ?_)))
 refine Xm ?_
 refine x_callb rfl rfl rfl Tryz.func135 Zk rfl (fun w1 hw1 => c49 _ w1 hy) fun b23 hb23 => ?_
 refine Xa ?_
 refine Ze (Zt (Zs (Zs (Zr ?_))))
 refine Xm ?_
 refine Ze (Zt ?_)
 refine w_cond rfl (fun hc24 => ?_) (fun hc24 => ?_)
 ·simp only [hb23, Qz, ne_eq] at hc24
  refine Zs (Zr ?_)
  refine Xa ?_
  refine Ze (Zt (w_ret (t_ret ?_)))
  refine ret1 rfl rfl (fun w' hm => ⟨?_, hm.base (by simp)⟩)
  first | (exfalso; omega) | (unfold mlen; (repeat (first | rw [if_pos (by first | omega | assumption)] | rw [if_neg (by first | omega | (simp only [*]; exact Bool.false_ne_true))])))
 simp only [hb23, Qz, ne_eq] at hc24
 refine w_skip (Zt (Zs (Zr ?_)))
 refine Xa ?_
 refine Ze (Zt (w_ret ?_))
 refine ret1 rfl rfl (fun w' hm => ⟨?_, hm.base (by simp)⟩)
 first | (exfalso; omega) | (unfold mlen; (repeat (first | rw [if_pos (by first | omega | assumption)] | rw [if_neg (by first | omega | (simp only [*]; exact Bool.false_ne_true))])))
theorem c34 (y : Int) (w : World) (h : 1 ≤ y ∧ y ≤ 10001) :
  Calls Tryz.prog 123 #[.int .i64 y] w fun e w' => e = .returned (.int .i64 (NY y)) ∧ Later w w' := by
 refine enter (vs := [.int .i64 y]) Tryz.func123 rfl Tryz.ntmps123 rfl ?_
 refine Zs (Zr ?_)
 refine Xa ?_
 refine Ze (Zt (Zs (Zr ?_)))
 refine Xm ?_
 refine Xv rfl (v_subi rfl rfl rfl Zo) ?_
 refine Xa ?_
 refine Ze (Zt (Zs (Zr ?_)))
 refine Xm ?_
 refine Xv rfl (v_muli rfl rfl rfl Zo) ?_
 refine Xv rfl (v_addi rfl rfl rfl Zo) ?_
 refine Xm ?_
 refine Xv rfl (v_quoi rfl rfl (by decide) (Int.tdiv_eq_ediv_of_nonneg (by omega)) (by omega)) ?_
 refine Xv rfl (v_addi rfl rfl rfl Zo) ?_
 refine Xm ?_
 refine Xv rfl (v_quoi rfl rfl (by decide) (Int.tdiv_eq_ediv_of_nonneg (by omega)) (by omega)) ?_
 refine Xv rfl (v_subi rfl rfl rfl Zo) ?_
 refine Xm ?_
 refine Xv rfl (v_quoi rfl rfl (by decide) (Int.tdiv_eq_ediv_of_nonneg (by omega)) (by omega)) ?_
 refine Xv rfl (v_addi rfl rfl rfl Zo) ?_
 refine Xa ?_
 refine Ze (Zt (w_ret ?_))
 refine ret1 rfl rfl (fun w' hm => ⟨?_, hm.base (by simp)⟩)
 unfold NY; congr 2
theorem c36 (y : Int) (w : World) (h : 0 ≤ y ∧ y ≤ 10001) :
  Calls Tryz.prog 113 #[.int .i64 y] w fun e w' => e = .returned (.int .i64 (NY (y + 1) + 719162)) ∧ Later w w' := by
 refine enter (vs := [.int .i64 y]) Tryz.func113 rfl Tryz.ntmps113 rfl ?_
 refine Zs (Zr ?_)
 refine Xa ?_
 refine Ze (Zt (Zs (Zr ?_)))
 refine Xm ?_
 refine Xv rfl (v_muli rfl rfl rfl Zo) ?_
 refine Xm ?_
 refine Xv rfl (v_quoi rfl rfl (by decide) (Int.tdiv_eq_ediv_of_nonneg (by omega)) (by omega)) ?_
 refine Xv rfl (v_addi rfl rfl rfl Zo) ?_
 refine Xm ?_
 refine Xv rfl (v_quoi rfl rfl (by decide) (Int.tdiv_eq_ediv_of_nonneg (by omega)) (by omega)) ?_
 refine Xv rfl (v_subi rfl rfl rfl Zo) ?_
 refine Xm ?_
 refine Xv rfl (v_quoi rfl rfl (by decide) (Int.tdiv_eq_ediv_of_nonneg (by omega)) (by omega)) ?_
 refine Xv rfl (v_addi rfl rfl rfl Zo) ?_
 refine Xa ?_
 refine Ze (Zt (w_ret ?_))
 refine ret1 rfl rfl (fun w' hm => ⟨?_, hm.base (by simp)⟩)
 unfold NY; congr 1; congr 1; rw [show y + 1 - 1 = y by omega]; omega
theorem c37 (n : Int) (w : World) :
  Calls Tryz.prog 104 #[.int .i64 n] w fun e w' => e = .returned (.bool (decide (okDay n))) ∧ Later w w' := by
 refine enter (vs := [.int .i64 n]) Tryz.func104 rfl Tryz.ntmps104 rfl ?_
 refine Zs (Zr ?_)
 refine Xa ?_
 refine Ze (Zt (Zs (Zr ?_)))
 refine Xm ?_
 refine Xb rfl (v_geq rfl rfl) fun b4 hb4 => ?_
 refine Xm ?_
 refine Xg ?_
 refine Xj rfl rfl rfl (fun hg0 => by subst hg0; (try simp only [Qy]); exact v_leq rfl rfl) fun b7 hb7 => ?_
 refine Xb rfl (v_and rfl rfl) fun b8 hb8 => ?_
 refine Xa ?_
 refine Ze (Zt (w_ret ?_))
 refine ret1 rfl rfl (fun w' hm => ⟨?_, hm.base (by simp)⟩)
 rw [hb8, hb7, hb4, ok_dec]
theorem c39 (n : Int) (w : World) :
  Calls Tryz.prog 89 #[.int .i64 n] w fun e w' => e = .returned (.bool (decide (okDay n))) ∧ Later w w' := by
 refine enter (vs := [.int .i64 n]) Tryz.func89 rfl Tryz.ntmps89 rfl ?_
 refine Zs (Zr ?_)
 refine Xa ?_
 refine Ze (Zt (Zs (Zr ?_)))
 refine Xm ?_
 refine Xb rfl (v_geq rfl rfl) fun b4 hb4 => ?_
 refine Xm ?_
 refine Xg ?_
 refine Xj rfl rfl rfl (fun hg0 => by subst hg0; (try simp only [Qy]); exact v_leq rfl rfl) fun b7 hb7 => ?_
 refine Xb rfl (v_and rfl rfl) fun b8 hb8 => ?_
 refine Xa ?_
 refine Ze (Zt (w_ret ?_))
 refine ret1 rfl rfl (fun w' hm => ⟨?_, hm.base (by simp)⟩)
 rw [hb8, hb7, hb4, ok_dec]
open Go.RowKit Go.PK
theorem c13 (y m d : Int) (w : World) (hy : in64 y) :
  Calls Tryz.prog 99 #[.int .i64 y, .int .i64 m, .int .i64 d] w fun e w' => e = .returned (.tuple #[.int .i64 (dayV y m d), .bool (decide (validD y m d))]) ∧ Later w w' := by
 refine enter (vs := [.int .i64 y, .int .i64 m, .int .i64 d]) Tryz.func99 rfl Tryz.ntmps99 rfl ?_
 refine Zs (Zr ?_)
 refine Xa ?_
 refine Xa ?_
 refine Ze (Zt (Zs (Zs (Zr ?_))))
 refine Xm ?_
 refine Xb rfl (v_lss rfl rfl) fun b11 hb11 => ?_
 refine Xm ?_
 refine Xg ?_
 refine Xj rfl rfl rfl (fun hg0 => by subst hg0; (try simp only [Qy]); exact v_gtr rfl rfl) fun b14 hb14 => ?_
 refine Xb rfl (v_or rfl rfl) fun b15 hb15 => ?_
 refine Xm ?_
 refine Xg ?_
 refine Xj rfl rfl rfl (fun hg0 => by subst hg0; (try simp only [Qy]); exact v_lss rfl rfl) fun b18 hb18 => ?_
 refine Xb rfl (v_or rfl rfl) fun b19 hb19 => ?_
 refine Xm ?_
 refine Xg ?_
 refine Xj rfl rfl rfl (fun hg0 => by subst hg0; (try simp only [Qy]); exact v_gtr rfl rfl) fun b22 hb22 => ?_
 refine Xb rfl (v_or rfl rfl) fun b23 hb23 => ?_
 refine Xm ?_
 refine Xg ?_
 refine Xj rfl rfl rfl (fun hg0 => by subst hg0; (try simp only [Qy]); exact v_lss rfl rfl) fun b26 hb26 => ?_
 refine Xb rfl (v_or rfl rfl) fun b27 hb27 => ?_
 refine Xm ?_
 refine Xg ?_
 refine Xg ?_
 refine Xg ?_
 refine x_call_if [] rfl rfl rfl rfl rfl Tryz.func122 Zk (fun hg => by obtain ⟨hg0, _⟩ := hg; subst hg0; (try simp only [Qy]); refine ⟨_, rfl, ?_⟩; exact fun w1 hw1 => c33 _ _ w1 hy) ?_
 refine Xj rfl rfl rfl (fun hg0 => by subst hg0; (try simp only [Qy]); exact v_gtr rfl rfl) fun b33 hb33 => ?_
 refine Xb rfl (v_or rfl rfl) fun b34 hb34 => ?_
 refine Ze (Zt ?_)
 refine w_cond rfl (fun hc34 => ?_) (fun hc34 => ?_)
 ·simp only [hb34, hb33, hb27, hb26, hb23, hb22, hb19, hb18, hb15, hb14, hb11, Qz, ne_eq] at hc34
  have hv : ¬validD y m d := fun h => by unfold validD at h; omega
  refine Zs (Zr ?_)
  refine Xa ?_
  refine Xa ?_
  refine Ze (Zt (w_ret (t_ret ?_)))
  refine ret2 rfl rfl rfl (fun w' hm => ⟨?_, hm.base (by simp)⟩)
  unfold dayV; rw [if_neg hv, decide_eq_false hv]
 simp only [hb34, hb33, hb27, hb26, hb23, hb22, hb19, hb18, hb15, hb14, hb11, Qz, ne_eq] at hc34
 have hv : validD y m d := by unfold validD; omega
 have hny := NY_rng (y := y) ⟨hv.1, by have := hv.2.1; omega⟩
 have hdl := mlen_rng y m
 obtain ⟨v1, v2, v3, v4, v5, v6⟩ := id hv
 refine w_skip (Zt (Zs (Zr ?_)))
 refine Xm ?_
 refine x_callv rfl rfl rfl Tryz.func123 Zk rfl (fun w1 hw1 => c34 _ w1 ⟨v1, by omega⟩) ?_
 refine Xm ?_
 refine Xv rfl (v_addi rfl rfl rfl Zo) ?_
 refine Xv rfl (v_subi rfl rfl rfl Zo) ?_
 refine Xa ?_
 refine Ze (Zt (Zs (Zs (Zr ?_))))
 refine Xa ?_
 refine Ze (Zt (w_block ?_))
 refine w_loop (σ := Nat × Int) (fun x => 1 ≤ x.1 ∧ (x.1 : Int) ≤ m ∧ x.2 = NY y + d - 1 + moff y (x.1 - 1)) (fun x => [(0, Value.int .i64 y), (1, Value.int .i64 m), (8, Value.int .i64 x.2), (9, Value.int .i64 (x.1 : Nat))]) (fun x => []) (fun x => [(w, fun _ => True)]) (fun x => (m - x.1).toNat) ((1, NY y + d - 1)) (⟨Nat.le_refl _, hv.2.2.1, by simp [moff]⟩) (l_start Zu (fun _ h => h)) ?_
 rintro ⟨k, a⟩ ⟨hk1, hk, ha⟩
 refine w_state ([(0, Value.int .i64 y), (1, Value.int .i64 m), (8, Value.int .i64 a), (9, Value.int .i64 (k : Nat))]) ([]) ([(w, fun _ => True)]) ?_
 dsimp only at hk1 hk ha
 have hmo := moff_ub (y := y) (k := k - 1) (by have := hv.2.2.2.1; omega)
 have hmn := moff_nonneg y (k - 1)
 have hml := mlen_rng y (k : Int)
 refine Zs (Zs (Zr ?_))
 refine Xm ?_
 refine Xm ?_
 refine Xb rfl (v_lss rfl rfl) fun b42 hb42 => ?_
 refine Ze (Zt ?_)
 refine w_cond rfl (fun hc42 => ?_) (fun hc42 => ?_)
 ·simp only [hb42, Qz, ne_eq] at hc42
  refine w_skip (Zt (Zs (w_block (Zr ?_))))
  refine Xm ?_
  refine Xm ?_
  refine Xm ?_
  refine x_callv rfl rfl rfl Tryz.func122 Zk rfl (fun w1 hw1 => c33 _ _ w1 hy) ?_
  refine Xv rfl (v_addi rfl rfl rfl Zo) ?_
  refine Xa ?_
  refine Ze (b_norm (Zt (Zr ?_)))
  refine Xm ?_
  refine Xv rfl (v_addi rfl rfl rfl Zo) ?_
  refine Xa ?_
  refine Ze ?_
  have hmp := moff_pred y hk1
  exact l_norm (k + 1, a + mlen y (k : Int)) ⟨by dsimp only; omega, by dsimp only; omega, by dsimp only; rw [Nat.add_sub_cancel, hmp, ha]; omega⟩ (by simp only; omega) Zu (fun _ h => h)
 simp only [hb42, Qz, ne_eq] at hc42
 refine w_exit ?_
 refine t_exit ?_
 refine t_exit ?_
 refine b_hit ?_
 refine Zt (Zs (Zr ?_))
 refine Xm ?_
 refine Xa ?_
 refine Xa ?_
 refine Ze (Zt (w_ret ?_))
 refine ret2 rfl rfl rfl (fun w' hm => ⟨?_, hm.base (by simp)⟩)
 have hkm : (k : Int) = m := by omega
 unfold dayV dayN; rw [if_pos hv, decide_eq_true hv, ← hkm, Int.toNat_natCast, ha]
open Go.RowKit Go.PK
theorem civ_of {day y d : Int} {m : Nat} (ho : okDay day) (hy : 1 ≤ y) (hm : 1 ≤ m ∧ m ≤ 12) (hd : 1 ≤ d ∧ d ≤ mlen y m) (he : d + moff y (m - 1) = day - NY y + 1) : civ day = (y, m, d) :=
 civ_eq ho ⟨hy, hm.1, hm.2, hd.1, hd.2, by unfold dayN; omega⟩
theorem year_ub {day y : Int} (ho : okDay day) (h : NY y ≤ day) : y ≤ 9999 := by
 rcases Int.lt_or_le y 10000 with hl | hl
 ·omega
 have := NY_le hl; rw [NY_last] at this; unfold okDay at ho; omega
theorem c15 (n : Int) (w : World) :
  Calls Tryz.prog 105 #[.int .i64 n] w fun e w' => e = .returned (.tuple #[.int .i64 (civ n).1, .int .i64 (civ n).2.1, .int .i64 (civ n).2.2]) ∧ Later w w' := by
 refine enter (vs := [.int .i64 n]) Tryz.func105 rfl Tryz.ntmps105 rfl ?_
 refine Zs (Zr ?_)
 refine Xa ?_
 refine Xa ?_
 refine Xa ?_
 refine Ze (Zt (Zs (Zs (Zr ?_))))
 refine Xm ?_
 refine x_callb rfl rfl rfl Tryz.func104 Zk rfl (fun w1 hw1 => c37 _ w1) fun b6 hb6 => ?_
 refine Xb rfl (v_not rfl) fun b7 hb7 => ?_
 refine Ze (Zt ?_)
 refine w_cond rfl (fun hc7 => ?_) (fun hc7 => ?_)
 ·simp only [hb7, hb6, Qz, ne_eq] at hc7
  have ho : ¬okDay n := by simpa using hc7
  refine Zs (Zr ?_)
  refine Xa ?_
  refine Xa ?_
  refine Xa ?_
  refine Ze (Zt (w_ret (t_ret ?_)))
  refine ret3 rfl rfl rfl rfl (fun w' hm => ⟨?_, hm.base (by simp)⟩)
  rw [civ_no ho]; rfl
 simp only [hb7, hb6, Qz, ne_eq] at hc7
 have ho : okDay n := by simpa using hc7
 obtain ⟨o1, o2⟩ := id ho
 refine w_skip (Zt (Zs (Zr ?_)))
 refine Xm ?_
 refine Xv rfl (v_subi rfl rfl rfl Zo) ?_
 refine Xv rfl (v_muli rfl rfl rfl Zo) ?_
 refine Xv rfl (v_quoi (c := (n + 719162) * 400 / 146097) rfl rfl (by decide) (by rw [Int.tdiv_eq_ediv_of_nonneg (by omega)]; congr 2) (by omega)) ?_
 refine Xv rfl (v_addi rfl rfl rfl Zo) ?_
 refine Xa ?_
 refine Ze (Zt (Zs (w_block ?_)))
 refine w_loop (σ := Int) (fun y => 1 ≤ y ∧ y ≤ 10001) (fun y => [(0, Value.int .i64 n), (2, Value.int .i64 y)]) (fun y => []) (fun y => [(w, fun _ => True)]) (fun y => y.toNat) (((n + 719162) * 400 / 146097 + 1)) (⟨by omega, by omega⟩) (l_start Zu (fun _ h => h)) ?_
 rintro y ⟨h1, h2⟩
 refine Zs (Zs (Zr ?_))
 refine Xm ?_
 refine x_callv rfl rfl rfl Tryz.func123 Zk rfl (fun w1 hw1 => c34 _ w1 ⟨h1, h2⟩) ?_
 refine Xm ?_
 refine Xb rfl (v_gtr rfl rfl) fun b16 hb16 => ?_
 refine Ze (Zt ?_)
 refine w_cond rfl (fun hc16 => ?_) (fun hc16 => ?_)
 ·simp only [hb16, Qz, ne_eq] at hc16
  have hy2 : 2 ≤ y := by rcases Int.lt_or_le y 2 with hl | hl; (· obtain rfl : y = 1 := (by omega); rw [NY_first] at hc16; omega); exact hl
  refine w_skip (Zt (w_block (Zr ?_)))
  refine Xm ?_
  refine Xv rfl (v_subi rfl rfl rfl Zo) ?_
  refine Xa ?_
  refine Ze (b_norm ?_)
  exact l_norm (y - 1) ⟨by omega, by omega⟩ (by omega) Zu (fun _ h => h)
 simp only [hb16, Qz, ne_eq] at hc16
 refine w_exit ?_
 refine t_exit ?_
 refine t_exit ?_
 refine b_hit ?_
 refine Zt (Zs (w_block ?_))
 refine w_loop (σ := Int) (fun y => 1 ≤ y ∧ NY y ≤ n) (fun y => [(0, Value.int .i64 n), (2, Value.int .i64 y)]) (fun y => []) (fun y => [(w, fun _ => True)]) (fun y => (10000 - y).toNat) (y) (⟨h1, by omega⟩) (l_start Zu (fun _ h => h)) ?_
 rintro y ⟨h1, h2⟩
 have h3 := year_ub ho h2
 refine Zs (Zs (Zr ?_))
 refine Xm ?_
 refine Xv rfl (v_addi rfl rfl rfl Zo) ?_
 refine x_callv rfl rfl rfl Tryz.func123 Zk rfl (fun w1 hw1 => c34 _ w1 ⟨by omega, by omega⟩) ?_
 refine Xm ?_
 refine Xb rfl (v_leq rfl rfl) fun b23 hb23 => ?_
 refine Ze (Zt ?_)
 refine w_cond rfl (fun hc23 => ?_) (fun hc23 => ?_)
 ·simp only [hb23, Qz, ne_eq] at hc23
  refine w_skip (Zt (w_block (Zr ?_)))
  refine Xm ?_
  refine Xv rfl (v_addi rfl rfl rfl Zo) ?_
  refine Xa ?_
  refine Ze (b_norm ?_)
  exact l_norm (y + 1) ⟨by omega, by omega⟩ (by omega) Zu (fun _ h => h)
 simp only [hb23, Qz, ne_eq] at hc23
 have hnn := NY_next y
 have hr := NY_rng (y := y) ⟨h1, by omega⟩
 refine w_exit ?_
 refine t_exit ?_
 refine t_exit ?_
 refine b_hit ?_
 refine Zt (Zs (Zr ?_))
 refine Xm ?_
 refine Xm ?_
 refine x_callv rfl rfl rfl Tryz.func123 Zk rfl (fun w1 hw1 => c34 _ w1 ⟨h1, by omega⟩) ?_
 refine Xv rfl (v_subi rfl rfl rfl Zo) ?_
 refine Xv rfl (v_addi rfl rfl rfl Zo) ?_
 refine Xa ?_
 refine Ze (Zt (Zs (Zs (Zr ?_))))
 refine Xa ?_
 refine Ze (Zt (w_block ?_))
 refine w_loop (σ := Nat × Int) (fun x => 1 ≤ x.1 ∧ x.1 ≤ 12 ∧ 1 ≤ x.2 + 0 ∧ x.2 + 0 + moff y (x.1 - 1) = n - NY y + 1) (fun x => [(0, Value.int .i64 n), (2, Value.int .i64 y), (3, Value.int .i64 (x.1 : Nat)), (4, Value.int .i64 x.2)]) (fun x => []) (fun x => [(w, fun _ => True)]) (fun x => 12 - x.1) ((1, n - NY y + 1)) (⟨Nat.le_refl _, by omega, by dsimp only; omega, by dsimp only; have : moff y (1 - 1) = 0 := rfl; omega⟩) (l_start Zu (fun _ h => h)) ?_
 rintro ⟨m, d⟩ ⟨hm1, hm2, hd, he⟩
 refine w_state ([(0, Value.int .i64 n), (2, Value.int .i64 y), (3, Value.int .i64 (m : Nat)), (4, Value.int .i64 d)]) ([]) ([(w, fun _ => True)]) ?_
 dsimp only at hm1 hm2 hd he
 have hmo := moff_ub (y := y) (k := m - 1) (by omega)
 have hmn := moff_nonneg y (m - 1)
 have hml := mlen_rng y (m : Int)
 have hmp := moff_pred y hm1
 have hm12 := moff_le (y := y) hm2
 refine Zs (Zs (Zr ?_))
 refine Xm ?_
 refine Xm ?_
 refine Xm ?_
 refine x_callv rfl rfl rfl Tryz.func122 Zk rfl (fun w1 hw1 => c33 _ _ w1 ⟨by omega, by omega⟩) ?_
 refine Xb rfl (v_gtr rfl rfl) fun b35 hb35 => ?_
 refine Ze (Zt ?_)
 refine w_cond rfl (fun hc35 => ?_) (fun hc35 => ?_)
 ·simp only [hb35, Qz, ne_eq] at hc35
  have hm11 : m < 12 := by rcases Nat.lt_or_ge m 12 with hl | hl; (· exact hl); obtain rfl : m = 12 := (by omega); omega
  refine w_skip (Zt (Zs (w_block (Zr ?_))))
  refine Xm ?_
  refine Xm ?_
  refine Xm ?_
  refine x_callv rfl rfl rfl Tryz.func122 Zk rfl (fun w1 hw1 => c33 _ _ w1 ⟨by omega, by omega⟩) ?_
  refine Xv rfl (v_subi rfl rfl rfl Zo) ?_
  refine Xa ?_
  refine Ze (b_norm (Zt (Zr ?_)))
  refine Xm ?_
  refine Xv rfl (v_addi rfl rfl rfl Zo) ?_
  refine Xa ?_
  refine Ze ?_
  exact l_norm (m + 1, d - mlen y m) ⟨by dsimp only; omega, by dsimp only; omega, by dsimp only; omega, by dsimp only; rw [Nat.add_sub_cancel, hmp]; omega⟩ (by simp only; omega) Zu (fun _ h => h)
 simp only [hb35, Qz, ne_eq] at hc35
 refine w_exit ?_
 refine t_exit ?_
 refine t_exit ?_
 refine b_hit ?_
 refine Zt (Zs (Zr ?_))
 refine Xm ?_
 refine Xm ?_
 refine Xm ?_
 refine Xa ?_
 refine Xa ?_
 refine Xa ?_
 refine Ze (Zt (w_ret ?_))
 refine ret3 rfl rfl rfl rfl (fun w' hm => ⟨?_, hm.base (by simp)⟩)
 rw [civ_of (d := d) ho h1 ⟨hm1, hm2⟩ ⟨by omega, by omega⟩ (by omega)]
theorem NY_366 {y : Int} (h : 1 ≤ y) : NY y ≤ -719162 + 366 * (y - 1) := by unfold NY; omega
theorem c16 (n : Int) (w : World) (hn : in64 n) :
  Calls Tryz.prog 90 #[.int .i64 n] w fun e w' => e = .returned (.tuple #[.int .i64 (civ n).1, .int .i64 (civ n).2.1, .int .i64 (civ n).2.2]) ∧ Later w w' := by
 refine enter (vs := [.int .i64 n]) Tryz.func90 rfl Tryz.ntmps90 rfl ?_
 refine Zs (Zr ?_)
 refine Xa ?_
 refine Xa ?_
 refine Xa ?_
 refine Ze (Zt (Zs (Zs (Zr ?_))))
 refine Xm ?_
 refine Xb rfl (v_lss rfl rfl) fun b9 hb9 => ?_
 refine Xm ?_
 refine Xg ?_
 refine Xj rfl rfl rfl (fun hg0 => by subst hg0; (try simp only [Qy]); exact v_gtr rfl rfl) fun b12 hb12 => ?_
 refine Xb rfl (v_or rfl rfl) fun b13 hb13 => ?_
 refine Ze (Zt ?_)
 refine w_cond rfl (fun hc13 => ?_) (fun hc13 => ?_)
 ·simp only [hb13, hb12, hb9, Qz, ne_eq] at hc13
  have ho : ¬okDay n := by unfold okDay; omega
  refine Zs (Zr ?_)
  refine Xa ?_
  refine Xa ?_
  refine Xa ?_
  refine Ze (Zt (w_ret (t_ret ?_)))
  refine ret3 rfl rfl rfl rfl (fun w' hm => ⟨?_, hm.base (by simp)⟩)
  rw [civ_no ho]; rfl
 simp only [hb13, hb12, hb9, Qz, ne_eq] at hc13
 have ho : okDay n := by unfold okDay; omega
 obtain ⟨o1, o2⟩ := id ho
 refine w_skip (Zt (Zs (Zr ?_)))
 refine Xm ?_
 refine Xv rfl (v_subi rfl rfl rfl Zo) ?_
 refine Xa ?_
 refine Ze (Zt (Zs (Zr ?_)))
 refine Xm ?_
 refine Xv rfl (v_quoi (c := (n + 719162) / 366) rfl rfl (by decide) (by rw [Int.tdiv_eq_ediv_of_nonneg (by omega)]; congr 1) (by omega)) ?_
 refine Xv rfl (v_addi rfl rfl rfl Zo) ?_
 refine Xa ?_
 refine Ze (Zt (Zs (w_block ?_)))
 refine w_loop (σ := Int) (fun y => 1 ≤ y ∧ NY y ≤ n) (fun y => [(5, Value.int .i64 (n - -719162)), (6, Value.int .i64 y)]) (fun y => []) (fun y => [(w, fun _ => True)]) (fun y => (10000 - y).toNat) (((n + 719162) / 366 + 1)) (⟨by omega, by have := NY_366 (y := (n + 719162) / 366 + 1) (by omega); omega⟩) (l_start Zu (fun _ h => h)) ?_
 rintro y ⟨h1, h2⟩
 have h3 := year_ub ho h2
 refine Zs (Zs (Zr ?_))
 refine Xm ?_
 refine x_callv rfl rfl rfl Tryz.func113 Zk rfl (fun w1 hw1 => c36 _ w1 ⟨by omega, by omega⟩) ?_
 refine Xm ?_
 refine Xb rfl (v_leq rfl rfl) fun b22 hb22 => ?_
 refine Ze (Zt ?_)
 refine w_cond rfl (fun hc22 => ?_) (fun hc22 => ?_)
 ·simp only [hb22, Qz, ne_eq] at hc22
  refine w_skip (Zt (w_block (Zr ?_)))
  refine Xm ?_
  refine Xv rfl (v_addi rfl rfl rfl Zo) ?_
  refine Xa ?_
  refine Ze (b_norm ?_)
  exact l_norm (y + 1) ⟨by omega, by omega⟩ (by omega) Zu (fun _ h => h)
 simp only [hb22, Qz, ne_eq] at hc22
 have hnn := NY_next y
 have hr := NY_rng (y := y) ⟨h1, by omega⟩
 refine w_exit ?_
 refine t_exit ?_
 refine t_exit ?_
 refine b_hit ?_
 refine Zt (Zs (Zr ?_))
 refine Xm ?_
 refine Xm ?_
 refine Xv rfl (v_subi rfl rfl rfl Zo) ?_
 refine x_callv rfl rfl rfl Tryz.func113 Zk rfl (fun w1 hw1 => c36 _ w1 ⟨by omega, by omega⟩) ?_
 refine Xv rfl (v_subi (c := n - NY y) rfl rfl (by rw [show y - 1 + 1 = y by omega]; omega) (by omega)) ?_
 refine Xa ?_
 refine Ze (Zt (Zs (Zr ?_)))
 refine Xa ?_
 refine Ze (Zt (Zs (w_block ?_)))
 refine w_loop (σ := Nat × Int) (fun x => 1 ≤ x.1 ∧ x.1 ≤ 12 ∧ 1 ≤ x.2 + 1 ∧ x.2 + 1 + moff y (x.1 - 1) = n - NY y + 1) (fun x => [(6, Value.int .i64 y), (7, Value.int .i64 (x.1 : Nat)), (5, Value.int .i64 x.2)]) (fun x => []) (fun x => [(w, fun _ => True)]) (fun x => 12 - x.1) ((1, n - NY y)) (⟨Nat.le_refl _, by omega, by dsimp only; omega, by dsimp only; have : moff y (1 - 1) = 0 := rfl; omega⟩) (l_start Zu (fun _ h => h)) ?_
 rintro ⟨m, d⟩ ⟨hm1, hm2, hd, he⟩
 refine w_state ([(6, Value.int .i64 y), (7, Value.int .i64 (m : Nat)), (5, Value.int .i64 d)]) ([]) ([(w, fun _ => True)]) ?_
 dsimp only at hm1 hm2 hd he
 have hmo := moff_ub (y := y) (k := m - 1) (by omega)
 have hmn := moff_nonneg y (m - 1)
 have hml := mlen_rng y (m : Int)
 have hmp := moff_pred y hm1
 have hm12 := moff_le (y := y) hm2
 refine Zs (Zs (Zr ?_))
 refine Xm ?_
 refine Xm ?_
 refine Xm ?_
 refine x_callv rfl rfl rfl Tryz.func114 Zk rfl (fun w1 hw1 => c35 _ _ w1 ⟨by omega, by omega⟩) ?_
 refine Xb rfl (v_geq rfl rfl) fun b34 hb34 => ?_
 refine Ze (Zt ?_)
 refine w_cond rfl (fun hc34 => ?_) (fun hc34 => ?_)
 ·simp only [hb34, Qz, ne_eq] at hc34
  have hm11 : m < 12 := by rcases Nat.lt_or_ge m 12 with hl | hl; (· exact hl); obtain rfl : m = 12 := (by omega); omega
  refine w_skip (Zt (w_block (Zs (Zr ?_))))
  refine Xm ?_
  refine Xm ?_
  refine Xm ?_
  refine x_callv rfl rfl rfl Tryz.func114 Zk rfl (fun w1 hw1 => c35 _ _ w1 ⟨by omega, by omega⟩) ?_
  refine Xv rfl (v_subi rfl rfl rfl Zo) ?_
  refine Xa ?_
  refine Ze (Zt (Zr ?_))
  refine Xm ?_
  refine Xv rfl (v_addi rfl rfl rfl Zo) ?_
  refine Xa ?_
  refine Ze (b_norm ?_)
  exact l_norm (m + 1, d - mlen y m) ⟨by dsimp only; omega, by dsimp only; omega, by dsimp only; omega, by dsimp only; rw [Nat.add_sub_cancel, hmp]; omega⟩ (by simp only; omega) Zu (fun _ h => h)
 simp only [hb34, Qz, ne_eq] at hc34
 refine w_exit ?_
 refine t_exit ?_
 refine t_exit ?_
 refine b_hit ?_
 refine Zt (Zs (Zr ?_))
 refine Xm ?_
 refine Xm ?_
 refine Xm ?_
 refine Xv rfl (v_addi rfl rfl rfl Zo) ?_
 refine Xa ?_
 refine Xa ?_
 refine Xa ?_
 refine Ze (Zt (w_ret ?_))
 refine ret3 rfl rfl rfl rfl (fun w' hm => ⟨?_, hm.base (by simp)⟩)
 rw [civ_of (d := d + 1) ho h1 ⟨hm1, hm2⟩ ⟨by omega, by omega⟩ (by omega)]
end Go.Proofs.YtaniaihoodgmpaaGreatDoor
