/- Of the proofs of YtnflcekodobdlaaGreatDoor: Facts Aa Ab, put together. -/
import Derived.Test.YtnflcekodobdlaaGreatDoorRows
import Derived.Test.YtnflcekodobdlaaGreatDoorW1
import Derived.Test.YtnflcekodobdlaaGreatDoorW2
import Derived.Test.YtnflcekodobdlaaGreatDoorW3
set_option linter.unusedVariables false
set_option linter.unusedSimpArgs false
set_option maxRecDepth 100000

namespace Go.Proofs.YtnflcekodobdlaaGreatDoor
abbrev u3 := @Tryz.underlying3
abbrev u5 := @Tryz.underlying5
abbrev u8 := @Tryz.underlying8
abbrev u9 := @Tryz.underlying9
abbrev u21 := @Tryz.underlying21
abbrev u22 := @Tryz.underlying22
abbrev u24 := @Tryz.underlying24
abbrev u25 := @Tryz.underlying25
abbrev u28 := @Tryz.underlying28
abbrev u29 := @Tryz.underlying29
abbrev u38 := @Tryz.underlying38
abbrev u49 := @Tryz.underlying49
abbrev u51 := @Tryz.underlying51
abbrev u60 := @Tryz.underlying60
abbrev u62 := @Tryz.underlying62
abbrev u64 := @Tryz.underlying64
abbrev u67 := @Tryz.underlying67
abbrev u76 := @Tryz.underlying76
abbrev u78 := @Tryz.underlying78
abbrev u86 := @Tryz.underlying86
abbrev u88 := @Tryz.underlying88
abbrev u89 := @Tryz.underlying89
abbrev u91 := @Tryz.underlying91
abbrev u93 := @Tryz.underlying93
abbrev u95 := @Tryz.underlying95
abbrev u97 := @Tryz.underlying97
abbrev u100 := @Tryz.underlying100
abbrev u120 := @Tryz.underlying120
abbrev u124 := @Tryz.underlying124
abbrev u135 := @Tryz.underlying135
abbrev u151 := @Tryz.underlying151
abbrev u153 := @Tryz.underlying153
abbrev u157 := @Tryz.underlying157
abbrev u160 := @Tryz.underlying160
abbrev u165 := @Tryz.underlying165
abbrev u167 := @Tryz.underlying167
abbrev u174 := @Tryz.underlying174
abbrev u192 := @Tryz.underlying192
abbrev u208 := @Tryz.underlying208
abbrev u212 := @Tryz.underlying212
abbrev u214 := @Tryz.underlying214
theorem sz3 : (Tryz.prog.info? 3).map (·.size) = some 1 := by kernel_rfl
theorem zr3 : (Tryz.prog.info? 3).bind (·.zero) = some (.int .i64 0) := by kernel_rfl
theorem zr4 : (Tryz.prog.info? 4).bind (·.zero) = some (.bool false) := by kernel_rfl
theorem sz5 : (Tryz.prog.info? 5).map (·.size) = some 1 := by kernel_rfl
theorem zr5 : (Tryz.prog.info? 5).bind (·.zero) = some (.int .u8 0) := by kernel_rfl
theorem sz9 : (Tryz.prog.info? 9).map (·.size) = some 1 := by kernel_rfl
theorem zr9 : (Tryz.prog.info? 9).bind (·.zero) = some (.string ⟨#[]⟩) := by kernel_rfl
theorem sz21 : (Tryz.prog.info? 21).map (·.size) = some 1 := by kernel_rfl
theorem zr21 : (Tryz.prog.info? 21).bind (·.zero) = some (.int .i32 0) := by kernel_rfl
theorem sz22 : (Tryz.prog.info? 22).map (·.size) = some 1 := by kernel_rfl
theorem sz24 : (Tryz.prog.info? 24).map (·.size) = some 1 := by kernel_rfl
theorem sz28 : (Tryz.prog.info? 28).map (·.size) = some 6 := by kernel_rfl
theorem zr28 : (Tryz.prog.info? 28).bind (·.zero) = some (.agg #[.int .i64 0, .int .i64 0, .int .i64 0, .int .i64 0, .int .i64 0, .string ⟨#[]⟩]) := by kernel_rfl
theorem sz38 : (Tryz.prog.info? 38).map (·.size) = some 1 := by kernel_rfl
theorem zr38 : (Tryz.prog.info? 38).bind (·.zero) = some (.slice none 0 0) := by kernel_rfl
theorem sz49 : (Tryz.prog.info? 49).map (·.size) = some 1 := by kernel_rfl
theorem sz51 : (Tryz.prog.info? 51).map (·.size) = some 3 := by kernel_rfl
theorem zr51 : (Tryz.prog.info? 51).bind (·.zero) = some (.agg #[.int .u8 0, .int .u8 0, .slice none 0 0]) := by kernel_rfl
theorem sz60 : (Tryz.prog.info? 60).map (·.size) = some 1 := by kernel_rfl
theorem sz62 : (Tryz.prog.info? 62).map (·.size) = some 4 := by kernel_rfl
theorem zr62 : (Tryz.prog.info? 62).bind (·.zero) = some (.agg #[.string ⟨#[]⟩, .string ⟨#[]⟩, .string ⟨#[]⟩, .slice none 0 0]) := by kernel_rfl
theorem sz67 : (Tryz.prog.info? 67).map (·.size) = some 2 := by kernel_rfl
theorem zr67 : (Tryz.prog.info? 67).bind (·.zero) = some (.agg #[.int .u8 0, .string ⟨#[]⟩]) := by kernel_rfl
theorem sz76 : (Tryz.prog.info? 76).map (·.size) = some 1 := by kernel_rfl
theorem zr78 : (Tryz.prog.info? 78).bind (·.zero) = some (.agg #[.slice none 0 0, .pointer none]) := by kernel_rfl
theorem zr86 : (Tryz.prog.info? 86).bind (·.zero) = some (.pointer none) := by kernel_rfl
theorem sz88 : (Tryz.prog.info? 88).map (·.size) = some 1 := by kernel_rfl
theorem sz89 : (Tryz.prog.info? 89).map (·.size) = some 1 := by kernel_rfl
theorem zr91 : (Tryz.prog.info? 91).bind (·.zero) = some (.agg #[.map none, .slice none 0 0, .map none, .map none]) := by kernel_rfl
theorem sz93 : (Tryz.prog.info? 93).map (·.size) = some 1 := by kernel_rfl
theorem sz95 : (Tryz.prog.info? 95).map (·.size) = some 2 := by kernel_rfl
theorem zr95 : (Tryz.prog.info? 95).bind (·.zero) = some (.agg #[.string ⟨#[]⟩, .int .i64 0]) := by kernel_rfl
theorem zr97 : (Tryz.prog.info? 97).bind (·.zero) = some (.agg #[.string ⟨#[]⟩, .string ⟨#[]⟩, .slice none 0 0, .slice none 0 0, .int .i64 0]) := by kernel_rfl
theorem sz151 : (Tryz.prog.info? 151).map (·.size) = some 1 := by kernel_rfl
theorem sz153 : (Tryz.prog.info? 153).map (·.size) = some 2 := by kernel_rfl
theorem zr153 : (Tryz.prog.info? 153).bind (·.zero) = some (.agg #[.pointer none, .slice none 0 0]) := by kernel_rfl
theorem sz157 : (Tryz.prog.info? 157).map (·.size) = some 1 := by kernel_rfl
theorem zr157 : (Tryz.prog.info? 157).bind (·.zero) = some (.nilFunc) := by kernel_rfl
theorem sz167 : (Tryz.prog.info? 167).map (·.size) = some 2 := by kernel_rfl
theorem zr167 : (Tryz.prog.info? 167).bind (·.zero) = some (.agg #[.string ⟨#[]⟩, .string ⟨#[]⟩]) := by kernel_rfl
theorem sz208 : (Tryz.prog.info? 208).map (·.size) = some 1 := by kernel_rfl
theorem zr208 : (Tryz.prog.info? 208).bind (·.zero) = some (.map none) := by kernel_rfl
open Go.RowKit Go.PK
theorem wf_i32 {c : Nat} (h : c ≤ 2147483647) : (Lit.int .i32 (c : Nat)).wf = true := by
 simp only [Lit.wf, Bool.and_eq_true, decide_eq_true_eq]
 have h1 : IntKind.i32.min = -2147483648 := by decide
 have h2 : IntKind.i32.max = 2147483647 := by decide
 omega
theorem k_between (c a z : Int) (w : World) :
  Calls Tryz.prog 132 #[.int .i32 c, .int .i32 a, .int .i32 z] w fun e w' => e = .returned (.bool (decide (a ≤ c ∧ c ≤ z))) ∧ Later w w' := by
 refine enter (vs := [.int .i32 c, .int .i32 a, .int .i32 z]) Tryz.func132 rfl Tryz.ntmps132 rfl ?_
 refine Zs (Zr ?_)
 refine Xa ?_
 refine Ze (Zt (Zs (Zr ?_)))
 refine Xm ?_
 refine Xm ?_
 refine Xb rfl (v_geq rfl rfl) fun b9 hb9 => ?_
 refine Xm ?_
 refine Xg ?_
 refine Xg ?_
 refine Xj rfl rfl rfl (fun hg0 => by subst hg0; (try simp only [Qy]); exact v_leq rfl rfl) fun b13 hb13 => ?_
 refine Xb rfl (v_and rfl rfl) fun b14 hb14 => ?_
 refine Xa ?_
 refine Ze (Zt (w_ret ?_))
 refine ret1 rfl rfl (fun w' hm => ⟨?_, hm.base (by simp)⟩)
 rw [hb14, hb13, hb9, Bool.decide_and]
theorem k_fold {mT : Nat} {esT : Array MapEntry} {ckT : Nat} (c : Nat) (hc : c ≤ 2147483647) (w : World) (hF : MapF Tryz.prog 21 esT (tabM tabR)) (h2 : w.heap[mT]? = some (.map esT ckT)) :
  Calls Tryz.prog 114 #[.int .i32 (c : Nat), .map (some mT)] w fun e w' => e = .returned (.string (foldC c)) ∧ Later w w' := by
 refine enter (vs := [.int .i32 (c : Nat), .map (some mT)]) Tryz.func114 rfl Tryz.ntmps114 rfl ?_
 refine Zs (Zr ?_)
 refine Xa ?_
 refine Ze (Zt (Zs (w_block ?_)))
 refine w_seq_cut (σ := Bool) (fun q => q = decide ((97 ≤ c ∧ c ≤ 122) ∨ (48 ≤ c ∧ c ≤ 57))) (fun q => [(0, Value.int .i32 (c : Nat)), (1, Value.map (some mT)), (7, Value.bool q)]) (fun q => []) (fun q => [(w, fun _ => True)]) ?_ ?_
 ·refine w_seq ?_
  refine Zr ?_
  refine Xm ?_
  refine x_callb rfl rfl rfl Tryz.func132 Zk rfl (fun w1 hw1 => k_between _ _ _ w1) fun b9 hb9 => ?_
  refine Xa ?_
  refine Ze (Zt ?_)
  refine w_cond rfl (fun hc7 => ?_) fun hc7 => ?_
  ·simp only [hb9, Qz, ne_eq] at hc7
   refine w_skip ?_
   exact c_norm b9 (by rw [hb9]; rw [decide_eq_decide]; omega) Zu (fun _ h => h)
  simp only [hb9, Qz, ne_eq] at hc7
  refine Zr ?_
  refine Xm ?_
  refine x_callb rfl rfl rfl Tryz.func132 Zk rfl (fun w1 hw1 => k_between _ _ _ w1) fun b11 hb11 => ?_
  refine Xa ?_
  refine Ze ?_
  exact c_norm b11 (by rw [hb11]; rw [decide_eq_decide]; omega) Zu (fun _ h => h)
 rintro q hq
 refine w_state ([(0, Value.int .i32 (c : Nat)), (1, Value.map (some mT)), (7, Value.bool q)]) ([]) ([(w, fun _ => True)]) ?_
 refine w_cond rfl (fun hc7 => ?_) fun hc7 => ?_
 ·simp only [hq, Qz, ne_eq] at hc7
  refine Zs (Zr ?_)
  refine Xm ?_
  refine Xv (v := Value.string (encB c)) rfl (v_intStr (kk := .i32) (z := (c : Nat)) (by rw [u21]; rfl) u9 rfl (rfl)) ?_
  refine Xa ?_
  refine Ze (Zt (w_ret (b_ret (t_ret ?_))))
  refine ret1 rfl rfl (fun w' hm => ⟨?_, hm.base (by simp)⟩)
  unfold foldC
  rw [if_pos (by omega)]
 simp only [hq, Qz, ne_eq] at hc7
 refine Zs (Zr ?_)
 refine Xm ?_
 refine x_callb rfl rfl rfl Tryz.func132 Zk rfl (fun w1 hw1 => k_between _ _ _ w1) fun b16 hb16 => ?_
 refine Xa ?_
 refine Ze (Zt ?_)
 refine w_cond rfl (fun hc14 => ?_) fun hc14 => ?_
 ·simp only [hb16, Qz, ne_eq] at hc14
  refine Zs (Zr ?_)
  refine Xm ?_
  refine Xv (v := Value.int .i32 ((c + 32 : Nat) : Int)) rfl (v_addE rfl rfl (by rw [IntKind.wrap_i32]; omega)) ?_
  refine Xv (v := Value.string (encB (c + 32))) rfl (v_intStr (kk := .i32) (z := ((c + 32 : Nat) : Int)) (by rw [u21]; rfl) u9 rfl (rfl)) ?_
  refine Xa ?_
  refine Ze (Zt (w_ret (b_ret (t_ret ?_))))
  refine ret1 rfl rfl (fun w' hm => ⟨?_, hm.base (by simp)⟩)
  unfold foldC
  rw [if_neg (by omega), if_pos (by omega)]
 simp only [hb16, Qz, ne_eq] at hc14
 refine Zs (Zr ?_)
 refine Xm ?_
 refine Xb rfl (v_lss rfl rfl) fun b22 hb22 => ?_
 refine Xa ?_
 refine Ze (Zt ?_)
 refine w_cond rfl (fun hc20 => ?_) fun hc20 => ?_
 ·simp only [hb22, Qz, ne_eq] at hc20
  refine Zs (Zr ?_)
  refine Xa ?_
  refine Ze (Zt (w_ret (b_ret (t_ret ?_))))
  refine ret1 rfl rfl (fun w' hm => ⟨?_, hm.base (by simp)⟩)
  unfold foldC
  rw [if_neg (by omega), if_neg (by omega), if_pos (by omega)]
  rfl
 simp only [hb22, Qz, ne_eq] at hc20
 refine w_seq_cut (σ := Bool) (fun q => q = decide ((768 ≤ c ∧ c ≤ 879) ∨ (65056 ≤ c ∧ c ≤ 65071))) (fun q => [(0, Value.int .i32 (c : Nat)), (1, Value.map (some mT)), (23, Value.bool q)]) (fun q => []) (fun q => [(w, fun _ => True)]) ?_ ?_
 ·refine w_seq ?_
  refine Zr ?_
  refine Xm ?_
  refine x_callb rfl rfl rfl Tryz.func132 Zk rfl (fun w1 hw1 => k_between _ _ _ w1) fun b25 hb25 => ?_
  refine Xa ?_
  refine Ze (Zt ?_)
  refine w_cond rfl (fun hc23 => ?_) fun hc23 => ?_
  ·simp only [hb25, Qz, ne_eq] at hc23
   refine w_skip ?_
   exact c_norm b25 (by rw [hb25]; rw [decide_eq_decide]; omega) Zu (fun _ h => h)
  simp only [hb25, Qz, ne_eq] at hc23
  refine Zr ?_
  refine Xm ?_
  refine x_callb rfl rfl rfl Tryz.func132 Zk rfl (fun w1 hw1 => k_between _ _ _ w1) fun b27 hb27 => ?_
  refine Xa ?_
  refine Ze ?_
  exact c_norm b27 (by rw [hb27]; rw [decide_eq_decide]; omega) Zu (fun _ h => h)
 rintro q hq
 refine w_state ([(0, Value.int .i32 (c : Nat)), (1, Value.map (some mT)), (23, Value.bool q)]) ([]) ([(w, fun _ => True)]) ?_
 refine w_cond rfl (fun hc23 => ?_) fun hc23 => ?_
 ·simp only [hq, Qz, ne_eq] at hc23
  refine Zs (Zr ?_)
  refine Xa ?_
  refine Ze (Zt (w_ret (b_ret (t_ret ?_))))
  refine ret1 rfl rfl (fun w' hm => ⟨?_, hm.base (by simp)⟩)
  unfold foldC
  rw [if_neg (by omega), if_neg (by omega), if_neg (by omega), if_pos (by omega)]
 simp only [hq, Qz, ne_eq] at hc23
 refine w_skip (b_norm (Zt (Zs (Zs ?_))))
 obtain ⟨s, hl⟩ | hl : (∃ s, lookR c = some s) ∨ lookR c = none := by cases lookR c with | none => exact .inr rfl | some s => exact .inl ⟨s, rfl⟩
 ·skip
  refine Zr ?_
  refine Xm ?_
  refine Xm ?_
  refine Xv (v := Value.tuple #[.string s, .bool true]) rfl (v_lookup2H u160 (Maps.int_keyed u21) zr9 rfl rfl (Maps.keyOf_int_mk u21 (wf_i32 hc)) (map_ro (.head _) trivial h2) hF (by rw [tab_look, hl]; rfl) (by rw [tab_look, hl]; rfl)) ?_
  refine Xm ?_
  refine Xe ?_
  refine Xb rfl (v_extract rfl rfl) fun b33 hb33 => ?_
  obtain rfl : b33 = true := hb33
  refine Xa ?_
  refine Xa ?_
  refine Ze (Zt (Zs (Zr ?_)))
  refine Xm ?_
  refine Ze (Zt ?_)
  refine w_cond rfl (fun hc34 => ?_) fun hc34 => ?_
  ·skip
   refine Zs (Zr ?_)
   refine Xm ?_
   refine Xa ?_
   refine Ze (Zt (w_ret (t_ret ?_)))
   refine ret1 rfl rfl (fun w' hm => ⟨?_, hm.base (by simp)⟩)
   unfold foldC
   rw [if_neg (by omega), if_neg (by omega), if_neg (by omega), if_neg (by omega), hl]
   rfl
  cases hc34
 skip
 refine Zr ?_
 refine Xm ?_
 refine Xm ?_
 refine Xv (v := Value.tuple #[.string ⟨#[]⟩, .bool false]) rfl (v_lookup2H u160 (Maps.int_keyed u21) zr9 rfl rfl (Maps.keyOf_int_mk u21 (wf_i32 hc)) (map_ro (.head _) trivial h2) hF (by rw [tab_look, hl]; rfl) (by rw [tab_look, hl]; rfl)) ?_
 refine Xm ?_
 refine Xe ?_
 refine Xb rfl (v_extract rfl rfl) fun b33 hb33 => ?_
 obtain rfl : b33 = false := hb33
 refine Xa ?_
 refine Xa ?_
 refine Ze (Zt (Zs (Zr ?_)))
 refine Xm ?_
 refine Ze (Zt ?_)
 refine w_cond rfl (fun hc34 => ?_) fun hc34 => ?_
 ·cases hc34
 skip
 refine w_skip (Zt (Zs (w_block (Zs (Zr ?_)))))
 refine Xm ?_
 refine Xb rfl (v_eql rfl rfl) fun b38 hb38 => ?_
 refine Xa ?_
 refine Ze (Zt ?_)
 refine w_cond rfl (fun hc36 => ?_) fun hc36 => ?_
 ·simp only [hb38, Qz, ne_eq] at hc36
  refine Zs (Zr ?_)
  refine Xa ?_
  refine Ze (Zt (w_ret (b_ret (t_ret ?_))))
  refine ret1 rfl rfl (fun w' hm => ⟨?_, hm.base (by simp)⟩)
  unfold foldC
  rw [if_neg (by omega), if_neg (by omega), if_neg (by omega), if_neg (by omega), hl]
  dsimp only
  rw [if_pos (by omega)]
  rw [show encB 963 = ⟨#[207, 131]⟩ from by decide +kernel]
 simp only [hb38, Qz, ne_eq] at hc36
 refine w_seq_cut (σ := Bool) (fun q => q = decide ((945 ≤ c ∧ c ≤ 969) ∨ (1072 ≤ c ∧ c ≤ 1103))) (fun q => [(0, Value.int .i32 (c : Nat)), (1, Value.map (some mT)), (39, Value.bool q)]) (fun q => []) (fun q => [(w, fun _ => True)]) ?_ ?_
 ·refine w_seq ?_
  refine Zr ?_
  refine Xm ?_
  refine x_callb rfl rfl rfl Tryz.func132 Zk rfl (fun w1 hw1 => k_between _ _ _ w1) fun b41 hb41 => ?_
  refine Xa ?_
  refine Ze (Zt ?_)
  refine w_cond rfl (fun hc39 => ?_) fun hc39 => ?_
  ·simp only [hb41, Qz, ne_eq] at hc39
   refine w_skip ?_
   exact c_norm b41 (by rw [hb41]; rw [decide_eq_decide]; omega) Zu (fun _ h => h)
  simp only [hb41, Qz, ne_eq] at hc39
  refine Zr ?_
  refine Xm ?_
  refine x_callb rfl rfl rfl Tryz.func132 Zk rfl (fun w1 hw1 => k_between _ _ _ w1) fun b43 hb43 => ?_
  refine Xa ?_
  refine Ze ?_
  exact c_norm b43 (by rw [hb43]; rw [decide_eq_decide]; omega) Zu (fun _ h => h)
 rintro q hq
 refine w_state ([(0, Value.int .i32 (c : Nat)), (1, Value.map (some mT)), (39, Value.bool q)]) ([]) ([(w, fun _ => True)]) ?_
 refine w_cond rfl (fun hc39 => ?_) fun hc39 => ?_
 ·simp only [hq, Qz, ne_eq] at hc39
  refine Zs (Zr ?_)
  refine Xm ?_
  refine Xv (v := Value.string (encB c)) rfl (v_intStr (kk := .i32) (z := (c : Nat)) (by rw [u21]; rfl) u9 rfl (rfl)) ?_
  refine Xa ?_
  refine Ze (Zt (w_ret (b_ret (t_ret ?_))))
  refine ret1 rfl rfl (fun w' hm => ⟨?_, hm.base (by simp)⟩)
  unfold foldC
  rw [if_neg (by omega), if_neg (by omega), if_neg (by omega), if_neg (by omega), hl]
  dsimp only
  rw [if_neg (by omega), if_pos (by omega)]
 simp only [hq, Qz, ne_eq] at hc39
 refine w_seq_cut (σ := Bool) (fun q => q = decide ((913 ≤ c ∧ c ≤ 937 ∧ c ≠ 930) ∨ (1040 ≤ c ∧ c ≤ 1071))) (fun q => [(0, Value.int .i32 (c : Nat)), (1, Value.map (some mT)), (46, Value.bool q)]) (fun q => []) (fun q => [(w, fun _ => True)]) ?_ ?_
 ·refine w_seq ?_
  refine Zr ?_
  refine Xm ?_
  refine x_callb rfl rfl rfl Tryz.func132 Zk rfl (fun w1 hw1 => k_between _ _ _ w1) fun b48 hb48 => ?_
  refine Xm ?_
  refine Xg ?_
  refine Xj rfl rfl rfl (fun hg0 => by subst hg0; (try simp only [Qy]); exact v_neq rfl rfl) fun b51 hb51 => ?_
  refine Xb rfl (v_and rfl rfl) fun b52 hb52 => ?_
  refine Xa ?_
  refine Ze (Zt ?_)
  refine w_cond rfl (fun hc46 => ?_) fun hc46 => ?_
  ·simp only [hb52, hb51, hb48, Qz, ne_eq] at hc46
   refine w_skip ?_
   exact c_norm b52 (by rw [hb52, hb51, hb48]; rw [← Bool.decide_and, decide_eq_decide]; omega) Zu (fun _ h => h)
  simp only [hb52, hb51, hb48, Qz, ne_eq] at hc46
  refine Zr ?_
  refine Xm ?_
  refine x_callb rfl rfl rfl Tryz.func132 Zk rfl (fun w1 hw1 => k_between _ _ _ w1) fun b54 hb54 => ?_
  refine Xa ?_
  refine Ze ?_
  exact c_norm b54 (by rw [hb54]; rw [decide_eq_decide]; omega) Zu (fun _ h => h)
 rintro q hq
 refine w_state ([(0, Value.int .i32 (c : Nat)), (1, Value.map (some mT)), (46, Value.bool q)]) ([]) ([(w, fun _ => True)]) ?_
 refine w_cond rfl (fun hc46 => ?_) fun hc46 => ?_
 ·simp only [hq, Qz, ne_eq] at hc46
  refine Zs (Zr ?_)
  refine Xm ?_
  refine Xv (v := Value.int .i32 ((c + 32 : Nat) : Int)) rfl (v_addE rfl rfl (by rw [IntKind.wrap_i32]; omega)) ?_
  refine Xv (v := Value.string (encB (c + 32))) rfl (v_intStr (kk := .i32) (z := ((c + 32 : Nat) : Int)) (by rw [u21]; rfl) u9 rfl (rfl)) ?_
  refine Xa ?_
  refine Ze (Zt (w_ret (b_ret (t_ret ?_))))
  refine ret1 rfl rfl (fun w' hm => ⟨?_, hm.base (by simp)⟩)
  unfold foldC
  rw [if_neg (by omega), if_neg (by omega), if_neg (by omega), if_neg (by omega), hl]
  dsimp only
  rw [if_neg (by omega), if_neg (by omega), if_pos (by omega)]
 simp only [hq, Qz, ne_eq] at hc46
 refine w_skip (b_norm (Zt (Zs (Zr ?_))))
 refine Xa ?_
 refine Ze (Zt (w_ret ?_))
 refine ret1 rfl rfl (fun w' hm => ⟨?_, hm.base (by simp)⟩)
 unfold foldC
 rw [if_neg (by omega), if_neg (by omega), if_neg (by omega), if_neg (by omega), hl]
 dsimp only
 rw [if_neg (by omega), if_neg (by omega), if_neg (by omega)]
 rfl
open Go.RowKit Go.PK
set_option maxHeartbeats 1000000 in
theorem k_Table (w : World) :
  Calls Tryz.prog 118 #[] w fun e w' => ∃ Bt, e = .returned (.slice (some ⟨Bt, 0, none⟩) 31 31) ∧ Later w w' ∧ Mem w' [(Bk Bt tabC 167)] [(w, fun _ => True)] := by
 refine enter (vs := []) Tryz.func118 rfl Tryz.ntmps118 rfl ?_
 refine Zs (Zr ?_)
 refine Xa ?_
 refine Ze (Zt (Zs (Zr ?_)))
 refine Xv rfl (v_buildArr u167 zr167 sz9 rfl rfl) ?_
 refine Xv rfl (v_buildArr u167 zr167 sz9 rfl rfl) ?_
 refine Xv rfl (v_buildArr u167 zr167 sz9 rfl rfl) ?_
 refine Xv rfl (v_buildArr u167 zr167 sz9 rfl rfl) ?_
 refine Xv rfl (v_buildArr u167 zr167 sz9 rfl rfl) ?_
 refine Xv rfl (v_buildArr u167 zr167 sz9 rfl rfl) ?_
 refine Xv rfl (v_buildArr u167 zr167 sz9 rfl rfl) ?_
 refine Xv rfl (v_buildArr u167 zr167 sz9 rfl rfl) ?_
 refine Xv rfl (v_buildArr u167 zr167 sz9 rfl rfl) ?_
 refine Xv rfl (v_buildArr u167 zr167 sz9 rfl rfl) ?_
 refine Xv rfl (v_buildArr u167 zr167 sz9 rfl rfl) ?_
 refine Xv rfl (v_buildArr u167 zr167 sz9 rfl rfl) ?_
 refine Xv rfl (v_buildArr u167 zr167 sz9 rfl rfl) ?_
 refine Xv rfl (v_buildArr u167 zr167 sz9 rfl rfl) ?_
 refine Xv rfl (v_buildArr u167 zr167 sz9 rfl rfl) ?_
 refine Xv rfl (v_buildArr u167 zr167 sz9 rfl rfl) ?_
 refine Xv rfl (v_buildArr u167 zr167 sz9 rfl rfl) ?_
 refine Xv rfl (v_buildArr u167 zr167 sz9 rfl rfl) ?_
 refine Xv rfl (v_buildArr u167 zr167 sz9 rfl rfl) ?_
 refine Xv rfl (v_buildArr u167 zr167 sz9 rfl rfl) ?_
 refine Xv rfl (v_buildArr u167 zr167 sz9 rfl rfl) ?_
 refine Xv rfl (v_buildArr u167 zr167 sz9 rfl rfl) ?_
 refine Xv rfl (v_buildArr u167 zr167 sz9 rfl rfl) ?_
 refine Xv rfl (v_buildArr u167 zr167 sz9 rfl rfl) ?_
 refine Xv rfl (v_buildArr u167 zr167 sz9 rfl rfl) ?_
 refine Xv rfl (v_buildArr u167 zr167 sz9 rfl rfl) ?_
 refine Xv rfl (v_buildArr u167 zr167 sz9 rfl rfl) ?_
 refine Xv rfl (v_buildArr u167 zr167 sz9 rfl rfl) ?_
 refine Xv rfl (v_buildArr u167 zr167 sz9 rfl rfl) ?_
 refine Xv rfl (v_buildArr u167 zr167 sz9 rfl rfl) ?_
 refine Xv rfl (v_buildArr u167 zr167 sz9 rfl rfl) ?_
 refine x_buildSliceL (cs := tabC) rfl rfl rfl u165 sz167 zr167 rfl rfl Zk ?_
 intro p32
 refine Xa ?_
 refine Ze (Zt (w_ret ?_))
 exact ret1 rfl rfl (fun w' hm => ⟨p32, rfl, hm.base (by simp), hm⟩)
set_option maxHeartbeats 1000000 in
theorem k_letter (c : Nat) (w : World) :
  Calls Tryz.prog 88 #[.int .i32 (c : Nat)] w fun e w' => e = .returned (.string ((lookR c).getD ⟨#[]⟩)) ∧ Later w w' := by
 refine enter (vs := [.int .i32 (c : Nat)]) Tryz.func88 rfl Tryz.ntmps88 rfl ?_
 refine Zs (Zr ?_)
 refine Xa ?_
 refine Ze (Zt (Zs (Zr ?_)))
 refine x_own (τ := Nat) (fun Bt => Value.slice (some ⟨Bt, 0, none⟩) 31 31) (fun _ => True) (fun Bt => [(Bk Bt tabC 167)]) rfl rfl rfl Tryz.func118 Zk rfl (fun w1 hw1 => (k_Table w1).mono fun e w2 ⟨Bt, h1, h2, h3⟩ => ⟨Bt, h1, h2, trivial, hw1.join h3⟩) fun Bt _ => ?_
 refine Xa ?_
 refine Ze (Zt (Zs (Zs (Zr ?_))))
 refine Xa ?_
 refine Ze (Zt (w_block ?_))
 refine w_loop (σ := Nat) (fun k => k ≤ 31 ∧ ∀ i (hi : i < rowsT.length), i < k → c ∉ runes rowsT[i].2) (fun k => [(0, Value.int .i32 (c : Nat)), (3, Value.slice (some ⟨Bt, 0, none⟩) 31 31), (4, Vi (k : Nat))]) (fun k => [(Bk Bt tabC 167)]) (fun k => [(w, fun _ => True)]) (fun k => 31 - k) (0) (⟨by omega, fun i hi h => by omega⟩) (l_start Zu (fun _ h => h)) ?_
 rintro k ⟨hk, hno⟩
 refine w_state ([(0, Value.int .i32 (c : Nat)), (3, Value.slice (some ⟨Bt, 0, none⟩) 31 31), (4, Vi (k : Nat))]) ([(Bk Bt tabC 167)]) ([(w, fun _ => True)]) ?_
 refine Zs (Zs (Zr ?_))
 refine Xm ?_
 refine Xm ?_
 refine Xv rfl (v_len_slice u165 rfl) ?_
 refine Xb rfl (v_lss rfl rfl) fun b11 hb11 => ?_
 refine Ze (Zt ?_)
 refine w_cond rfl (fun hc11 => ?_) fun hc11 => ?_
 ·simp only [hb11, Qz, ne_eq] at hc11
  have hkl : k < rowsT.length := by rw [rowsT_len]; omega
  have hsm := rowsT_small _ (List.getElem_mem hkl)
  have htc := pairC_at hkl
  have hrl := runes_len rowsT[k].2 rowsT[k].2.size 0 (by omega)
  have hrl : (runes rowsT[k].2).length ≤ 100 := Nat.le_trans hrl hsm.1
  refine w_skip (Zt (Zs (w_block (Zs (Zr ?_)))))
  refine Xm ?_
  refine Xm ?_
  refine Xv rfl (v_indexAddr u165 sz167 rfl rfl (by omega) rfl) ?_
  refine Xv rfl (v_indexArr (j := 1) u167 sz9 rfl rfl (by decide) rfl) ?_
  refine Xl rfl u9 rfl (at_ownL (vs := tabC) (v := Value.string rowsT[k].2) (.head _) (by rw [Nat.zero_add]; exact htc.2)) ?_
  refine x_runes rfl rfl rfl u9 u100 u21 rfl (by omega) fun Bl cp cs hcp hcs hcl => ?_
  refine Xa ?_
  refine Ze (Zt (Zs (Zr ?_)))
  refine Xa ?_
  refine Ze (Zt (w_block ?_))
  refine w_loop (σ := Nat) (fun j => j ≤ (runes rowsT[k].2).length ∧ ∀ i (hi : i < (runes rowsT[k].2).length), i < j → (runes rowsT[k].2)[i] ≠ c) (fun j => [(0, Value.int .i32 (c : Nat)), (3, Value.slice (some ⟨Bt, 0, none⟩) 31 31), (4, Vi (k : Nat)), (5, Value.slice (some ⟨Bl, 0, none⟩) (runes rowsT[k].2).length cp), (6, Vi (j : Nat))]) (fun j => [(Bk Bl cs 21), (Bk Bt tabC 167)]) (fun j => [(w, fun _ => True)]) (fun j => (runes rowsT[k].2).length - j) (0) (⟨Nat.zero_le _, fun i hi h => by omega⟩) (l_start Zu (fun _ h => h)) ?_
  rintro j ⟨hj, hnj⟩
  refine w_state ([(0, Value.int .i32 (c : Nat)), (3, Value.slice (some ⟨Bt, 0, none⟩) 31 31), (4, Vi (k : Nat)), (5, Value.slice (some ⟨Bl, 0, none⟩) (runes rowsT[k].2).length cp), (6, Vi (j : Nat))]) ([(Bk Bl cs 21), (Bk Bt tabC 167)]) ([(w, fun _ => True)]) ?_
  refine Zs (Zs (Zr ?_))
  refine Xm ?_
  refine Xm ?_
  refine Xv rfl (v_len_slice u100 rfl) ?_
  refine Xb rfl (v_lss rfl rfl) fun b23 hb23 => ?_
  refine Ze (Zt ?_)
  refine w_cond rfl (fun hc23 => ?_) fun hc23 => ?_
  ·simp only [hb23, Qz, ne_eq] at hc23
   have hjl : j < (runes rowsT[k].2).length := by omega
   refine w_skip (Zt (Zs (w_block (Zs (Zr ?_)))))
   refine Xm ?_
   refine Xm ?_
   refine Xv rfl (v_indexAddr u100 sz21 rfl rfl (by omega) rfl) ?_
   refine Xl rfl u21 rfl (at_ownL (vs := cs) (v := Value.int .i32 ((runes rowsT[k].2)[j] : Nat)) (.head _) (by rw [Nat.zero_add, Nat.mul_one, ← List.getElem?_take_of_lt hjl, hcs]; exact runeC_at hjl)) ?_
   refine Xm ?_
   refine Xb rfl (v_eql rfl rfl) fun b31 hb31 => ?_
   refine Ze (Zt ?_)
   refine w_cond rfl (fun hc31 => ?_) fun hc31 => ?_
   ·simp only [hb31, Qz, ne_eq] at hc31
    have hin : c ∈ runes rowsT[k].2 := by rw [← show (runes rowsT[k].2)[j] = c by omega]; exact List.getElem_mem hjl
    refine Zs (Zr ?_)
    refine Xm ?_
    refine Xm ?_
    refine Xv rfl (v_indexAddr u165 sz167 rfl rfl (by omega) rfl) ?_
    refine Xv rfl (v_indexArr (j := 0) u167 sz9 rfl rfl (by decide) rfl) ?_
    refine Xl rfl u9 rfl (at_ownL (vs := tabC) (v := Value.string rowsT[k].1) (.tail _ (.head _)) (by rw [Nat.zero_add]; exact htc.1)) ?_
    refine Xa ?_
    refine Ze (Zt (w_ret (b_ret (t_ret (t_ret (b_ret (b_ret (t_ret (t_ret (b_ret (t_ret ?_)))))))))))
    refine ret1 rfl rfl (fun w' hm => ⟨?_, hm.base (by simp)⟩)
    rw [lookR_at hkl hno hin]; rfl
   simp only [hb31, Qz, ne_eq] at hc31
   refine w_skip (b_norm (Zt (Zr ?_)))
   refine Xm ?_
   refine Xv rfl (v_addi rfl rfl rfl Zo) ?_
   refine Xa ?_
   refine Ze ?_
   exact l_norm (j + 1) ⟨hjl, fun i hi hij => by rcases Nat.lt_succ_iff_lt_or_eq.1 hij with h | rfl; (· exact hnj i hi h); omega⟩ (by omega) Zu (fun _ h => h)
  simp only [hb23, Qz, ne_eq] at hc23
  obtain rfl : j = (runes rowsT[k].2).length := by omega
  refine w_exit ?_
  refine t_exit ?_
  refine t_exit ?_
  refine b_hit ?_
  refine b_norm (Zt (Zr ?_))
  refine Xm ?_
  refine Xv rfl (v_addi rfl rfl rfl Zo) ?_
  refine Xa ?_
  refine Ze ?_
  exact l_norm (k + 1) ⟨by omega, fun i hi hij => by
   rcases Nat.lt_succ_iff_lt_or_eq.1 hij with h | rfl
   ·exact hno i hi h
   intro hm
   obtain ⟨q, hq, he⟩ := List.getElem_of_mem hm
   exact hnj q hq hq he⟩ (by omega) Zu (fun _ h => h.less (List.sublist_cons_self _ _) (fun _ h => h))
 simp only [hb11, Qz, ne_eq] at hc11
 have hk31 : k = 31 := by omega
 refine w_exit ?_
 refine t_exit ?_
 refine t_exit ?_
 refine b_hit ?_
 refine Zt (Zs (Zr ?_))
 refine Xa ?_
 refine Ze (Zt (w_ret ?_))
 refine ret1 rfl rfl (fun w' hm => ⟨?_, hm.base (by simp)⟩)
 rw [lookR_no fun i hi => hno i hi (by rw [rowsT_len] at hi; omega)]; rfl
set_option maxHeartbeats 1000000 in
theorem k_Char (c : Nat) (hc : c ≤ 2147483647) (w : World) :
  Calls Tryz.prog 52 #[.int .i32 (c : Nat)] w fun e w' => e = .returned (.string (foldC c)) ∧ Later w w' := by
 refine enter (vs := [.int .i32 (c : Nat)]) Tryz.func52 rfl Tryz.ntmps52 rfl ?_
 refine Zs (Zr ?_)
 refine Xa ?_
 refine Ze (Zt (Zs (Zs (Zr ?_))))
 refine Xm ?_
 refine Xb rfl (v_geq rfl rfl) fun b5 hb5 => ?_
 refine Xm ?_
 refine Xg ?_
 refine Xj rfl rfl rfl (fun hg0 => by subst hg0; (try simp only [Qy]); exact v_leq rfl rfl) fun b8 hb8 => ?_
 refine Xb rfl (v_and rfl rfl) fun b9 hb9 => ?_
 refine Xm ?_
 refine Xg ?_
 refine Xj rfl rfl rfl (fun hg0 => by subst hg0; (try simp only [Qy]); exact v_geq rfl rfl) fun b12 hb12 => ?_
 refine Xg ?_
 refine x_if [(b9, false)] rfl rfl rfl rfl rfl (fun hg => by obtain ⟨hg0, hg1, _⟩ := hg; subst hg0; subst hg1; (try simp only [Qy]); exact v_move rfl) ?_
 refine x_ifb [(b9, false)] rfl rfl rfl rfl rfl (fun hg => by obtain ⟨hg0, hg1, _⟩ := hg; subst hg0; subst hg1; (try simp only [Qy]); exact v_leq rfl rfl) fun b15 hb15 => ?_
 refine Xj rfl rfl rfl (fun hg0 => by subst hg0; (try simp only [Qy]); exact v_and rfl rfl) fun b16 hb16 => ?_
 refine Xb rfl (v_or rfl rfl) fun b17 hb17 => ?_
 refine Ze (Zt ?_)
 refine w_cond rfl (fun hc17 => ?_) fun hc17 => ?_
 ·simp only [hb17, hb16, hb15, hb12, hb9, hb8, hb5, Qz, ne_eq] at hc17
  refine Zs (Zr ?_)
  refine Xm ?_
  refine x_buildSliceL (cs := [Value.int .i32 (c : Nat)]) rfl rfl rfl u100 sz21 zr21 rfl rfl rfl ?_
  intro p19
  refine Xv (v := Value.string (encB c)) rfl (v_runeStr (z := (c : Nat)) (e' := 21) (fz := (0, 0)) u100 u21 u9 rfl (.head _) (rfl)) ?_
  refine Xa ?_
  refine Ze (Zt (w_ret (t_ret ?_)))
  refine ret1 rfl rfl (fun w' hm => ⟨?_, hm.base (by simp)⟩)
  unfold foldC
  rw [if_pos (by omega)]
 simp only [hb17, hb16, hb15, hb12, hb9, hb8, hb5, Qz, ne_eq] at hc17
 refine w_skip (Zt (Zs (Zs (Zr ?_))))
 refine Xm ?_
 refine Xb rfl (v_geq rfl rfl) fun b22 hb22 => ?_
 refine Xm ?_
 refine Xg ?_
 refine Xj rfl rfl rfl (fun hg0 => by subst hg0; (try simp only [Qy]); exact v_leq rfl rfl) fun b25 hb25 => ?_
 refine Xb rfl (v_and rfl rfl) fun b26 hb26 => ?_
 refine Ze (Zt ?_)
 refine w_cond rfl (fun hc26 => ?_) fun hc26 => ?_
 ·simp only [hb26, hb25, hb22, Qz, ne_eq] at hc26
  refine Zs (Zr ?_)
  refine Xm ?_
  refine Xv (v := Value.int .i32 ((c + 32 : Nat) : Int)) rfl (v_addE rfl rfl (by rw [IntKind.wrap_i32]; omega)) ?_
  refine x_buildSliceL (cs := [Value.int .i32 ((c + 32 : Nat) : Int)]) rfl rfl rfl u100 sz21 zr21 rfl rfl rfl ?_
  intro p29
  refine Xv (v := Value.string (encB (c + 32))) rfl (v_runeStr (z := ((c + 32 : Nat) : Int)) (e' := 21) (fz := (0, 0)) u100 u21 u9 rfl (.head _) (rfl)) ?_
  refine Xa ?_
  refine Ze (Zt (w_ret (t_ret ?_)))
  refine ret1 rfl rfl (fun w' hm => ⟨?_, hm.base (by simp)⟩)
  unfold foldC
  rw [if_neg (by omega), if_pos (by omega)]
 simp only [hb26, hb25, hb22, Qz, ne_eq] at hc26
 refine w_skip (Zt (Zs (Zs (Zr ?_))))
 refine Xm ?_
 refine Xb rfl (v_lss rfl rfl) fun b32 hb32 => ?_
 refine Ze (Zt ?_)
 refine w_cond rfl (fun hc32 => ?_) fun hc32 => ?_
 ·simp only [hb32, Qz, ne_eq] at hc32
  refine Zs (Zr ?_)
  refine Xa ?_
  refine Ze (Zt (w_ret (t_ret ?_)))
  refine ret1 rfl rfl (fun w' hm => ⟨?_, hm.base (by simp)⟩)
  unfold foldC
  rw [if_neg (by omega), if_neg (by omega), if_pos (by omega)]
  rfl
 simp only [hb32, Qz, ne_eq] at hc32
 refine w_skip (Zt (Zs (Zs (Zr ?_))))
 refine Xm ?_
 refine Xb rfl (v_geq rfl rfl) fun b34 hb34 => ?_
 refine Xm ?_
 refine Xg ?_
 refine Xj rfl rfl rfl (fun hg0 => by subst hg0; (try simp only [Qy]); exact v_leq rfl rfl) fun b37 hb37 => ?_
 refine Xb rfl (v_and rfl rfl) fun b38 hb38 => ?_
 refine Xm ?_
 refine Xg ?_
 refine Xj rfl rfl rfl (fun hg0 => by subst hg0; (try simp only [Qy]); exact v_geq rfl rfl) fun b41 hb41 => ?_
 refine Xg ?_
 refine x_if [(b38, false)] rfl rfl rfl rfl rfl (fun hg => by obtain ⟨hg0, hg1, _⟩ := hg; subst hg0; subst hg1; (try simp only [Qy]); exact v_move rfl) ?_
 refine x_ifb [(b38, false)] rfl rfl rfl rfl rfl (fun hg => by obtain ⟨hg0, hg1, _⟩ := hg; subst hg0; subst hg1; (try simp only [Qy]); exact v_leq rfl rfl) fun b44 hb44 => ?_
 refine Xj rfl rfl rfl (fun hg0 => by subst hg0; (try simp only [Qy]); exact v_and rfl rfl) fun b45 hb45 => ?_
 refine Xb rfl (v_or rfl rfl) fun b46 hb46 => ?_
 refine Ze (Zt ?_)
 refine w_cond rfl (fun hc46 => ?_) fun hc46 => ?_
 ·simp only [hb46, hb45, hb44, hb41, hb38, hb37, hb34, Qz, ne_eq] at hc46
  refine Zs (Zr ?_)
  refine Xa ?_
  refine Ze (Zt (w_ret (t_ret ?_)))
  refine ret1 rfl rfl (fun w' hm => ⟨?_, hm.base (by simp)⟩)
  unfold foldC
  rw [if_neg (by omega), if_neg (by omega), if_neg (by omega), if_pos (by omega)]
 simp only [hb46, hb45, hb44, hb41, hb38, hb37, hb34, Qz, ne_eq] at hc46
 refine w_skip (Zt (Zs ?_))
 obtain ⟨s, hl⟩ | hl : (∃ s, lookR c = some s) ∨ lookR c = none := by cases lookR c with | none => exact .inr rfl | some s => exact .inl ⟨s, rfl⟩
 ·skip
  refine Zr ?_
  refine Xm ?_
  refine x_callv (v := Value.string s) rfl rfl rfl Tryz.func88 Zk rfl (fun w1 hw1 => by have := k_letter c w1; rw [hl] at this; exact this) ?_
  refine Xa ?_
  refine Ze (Zt (Zs (w_block (Zs (Zr ?_)))))
  refine Xm ?_
  refine Xb rfl (v_sneq rfl rfl) fun b51 hb51 => ?_
  refine Xa ?_
  refine Ze (Zt ?_)
  refine w_cond rfl (fun hc49 => ?_) fun hc49 => ?_
  ·skip
   refine Zs (Zr ?_)
   refine Xm ?_
   refine Xa ?_
   refine Ze (Zt (w_ret (b_ret (t_ret ?_))))
   refine ret1 rfl rfl (fun w' hm => ⟨?_, hm.base (by simp)⟩)
   unfold foldC
   rw [if_neg (by omega), if_neg (by omega), if_neg (by omega), if_neg (by omega), hl]
  rw [hb51] at hc49
  have := (lookR_short hl).1
  simp at hc49
  rw [hc49] at this
  exact absurd this (by decide)
 skip
 refine Zr ?_
 refine Xm ?_
 refine x_callv (v := Value.string ⟨#[]⟩) rfl rfl rfl Tryz.func88 Zk rfl (fun w1 hw1 => by have := k_letter c w1; rw [hl] at this; exact this) ?_
 refine Xa ?_
 refine Ze (Zt (Zs (w_block (Zs (Zr ?_)))))
 refine Xm ?_
 refine Xb rfl (v_sneq rfl rfl) fun b51 hb51 => ?_
 refine Xa ?_
 refine Ze (Zt ?_)
 refine w_cond rfl (fun hc49 => ?_) fun hc49 => ?_
 ·rw [hb51] at hc49
  simp at hc49
 skip
 refine Zs (Zr ?_)
 refine Xm ?_
 refine Xb rfl (v_eql rfl rfl) fun b55 hb55 => ?_
 refine Xa ?_
 refine Ze (Zt ?_)
 refine w_cond rfl (fun hc53 => ?_) fun hc53 => ?_
 ·simp only [hb55, Qz, ne_eq] at hc53
  refine Zs (Zr ?_)
  refine x_buildSliceL (cs := [Value.int .i32 963]) rfl rfl rfl u100 sz21 zr21 rfl rfl rfl ?_
  intro p56
  refine Xv (v := Value.string (encB 963)) rfl (v_runeStr (z := 963) (e' := 21) (fz := (0, 0)) u100 u21 u9 rfl (.head _) (rfl)) ?_
  refine Xa ?_
  refine Ze (Zt (w_ret (b_ret (t_ret ?_))))
  refine ret1 rfl rfl (fun w' hm => ⟨?_, hm.base (by simp)⟩)
  unfold foldC
  rw [if_neg (by omega), if_neg (by omega), if_neg (by omega), if_neg (by omega), hl]
  dsimp only
  rw [if_pos (by omega)]
 simp only [hb55, Qz, ne_eq] at hc53
 refine Zs (Zr ?_)
 refine Xm ?_
 refine Xb rfl (v_geq rfl rfl) fun b60 hb60 => ?_
 refine Xm ?_
 refine Xg ?_
 refine Xj rfl rfl rfl (fun hg0 => by subst hg0; (try simp only [Qy]); exact v_leq rfl rfl) fun b63 hb63 => ?_
 refine Xb rfl (v_and rfl rfl) fun b64 hb64 => ?_
 refine Xm ?_
 refine Xg ?_
 refine Xj rfl rfl rfl (fun hg0 => by subst hg0; (try simp only [Qy]); exact v_geq rfl rfl) fun b67 hb67 => ?_
 refine Xg ?_
 refine x_if [(b64, false)] rfl rfl rfl rfl rfl (fun hg => by obtain ⟨hg0, hg1, _⟩ := hg; subst hg0; subst hg1; (try simp only [Qy]); exact v_move rfl) ?_
 refine x_ifb [(b64, false)] rfl rfl rfl rfl rfl (fun hg => by obtain ⟨hg0, hg1, _⟩ := hg; subst hg0; subst hg1; (try simp only [Qy]); exact v_leq rfl rfl) fun b70 hb70 => ?_
 refine Xj rfl rfl rfl (fun hg0 => by subst hg0; (try simp only [Qy]); exact v_and rfl rfl) fun b71 hb71 => ?_
 refine Xb rfl (v_or rfl rfl) fun b72 hb72 => ?_
 refine Xa ?_
 refine Ze (Zt ?_)
 refine w_cond rfl (fun hc58 => ?_) fun hc58 => ?_
 ·simp only [hb72, hb71, hb70, hb67, hb64, hb63, hb60, Qz, ne_eq] at hc58
  refine Zs (Zr ?_)
  refine Xm ?_
  refine x_buildSliceL (cs := [Value.int .i32 (c : Nat)]) rfl rfl rfl u100 sz21 zr21 rfl rfl rfl ?_
  intro p74
  refine Xv (v := Value.string (encB c)) rfl (v_runeStr (z := (c : Nat)) (e' := 21) (fz := (0, 0)) u100 u21 u9 rfl (.head _) (rfl)) ?_
  refine Xa ?_
  refine Ze (Zt (w_ret (b_ret (t_ret ?_))))
  refine ret1 rfl rfl (fun w' hm => ⟨?_, hm.base (by simp)⟩)
  unfold foldC
  rw [if_neg (by omega), if_neg (by omega), if_neg (by omega), if_neg (by omega), hl]
  dsimp only
  rw [if_neg (by omega), if_pos (by omega)]
 simp only [hb72, hb71, hb70, hb67, hb64, hb63, hb60, Qz, ne_eq] at hc58
 refine Zs (Zr ?_)
 refine Xm ?_
 refine Xb rfl (v_geq rfl rfl) fun b78 hb78 => ?_
 refine Xm ?_
 refine Xg ?_
 refine Xj rfl rfl rfl (fun hg0 => by subst hg0; (try simp only [Qy]); exact v_leq rfl rfl) fun b81 hb81 => ?_
 refine Xb rfl (v_and rfl rfl) fun b82 hb82 => ?_
 refine Xm ?_
 refine Xg ?_
 refine Xj rfl rfl rfl (fun hg0 => by subst hg0; (try simp only [Qy]); exact v_neq rfl rfl) fun b85 hb85 => ?_
 refine Xb rfl (v_and rfl rfl) fun b86 hb86 => ?_
 refine Xm ?_
 refine Xg ?_
 refine Xj rfl rfl rfl (fun hg0 => by subst hg0; (try simp only [Qy]); exact v_geq rfl rfl) fun b89 hb89 => ?_
 refine Xg ?_
 refine x_if [(b86, false)] rfl rfl rfl rfl rfl (fun hg => by obtain ⟨hg0, hg1, _⟩ := hg; subst hg0; subst hg1; (try simp only [Qy]); exact v_move rfl) ?_
 refine x_ifb [(b86, false)] rfl rfl rfl rfl rfl (fun hg => by obtain ⟨hg0, hg1, _⟩ := hg; subst hg0; subst hg1; (try simp only [Qy]); exact v_leq rfl rfl) fun b92 hb92 => ?_
 refine Xj rfl rfl rfl (fun hg0 => by subst hg0; (try simp only [Qy]); exact v_and rfl rfl) fun b93 hb93 => ?_
 refine Xb rfl (v_or rfl rfl) fun b94 hb94 => ?_
 refine Xa ?_
 refine Ze (Zt ?_)
 refine w_cond rfl (fun hc76 => ?_) fun hc76 => ?_
 ·simp only [hb94, hb93, hb92, hb89, hb86, hb85, hb82, hb81, hb78, Qz, ne_eq] at hc76
  refine Zs (Zr ?_)
  refine Xm ?_
  refine Xv (v := Value.int .i32 ((c + 32 : Nat) : Int)) rfl (v_addE rfl rfl (by rw [IntKind.wrap_i32]; omega)) ?_
  refine x_buildSliceL (cs := [Value.int .i32 ((c + 32 : Nat) : Int)]) rfl rfl rfl u100 sz21 zr21 rfl rfl rfl ?_
  intro p97
  refine Xv (v := Value.string (encB (c + 32))) rfl (v_runeStr (z := ((c + 32 : Nat) : Int)) (e' := 21) (fz := (0, 0)) u100 u21 u9 rfl (.head _) (rfl)) ?_
  refine Xa ?_
  refine Ze (Zt (w_ret (b_ret (t_ret ?_))))
  refine ret1 rfl rfl (fun w' hm => ⟨?_, hm.base (by simp)⟩)
  unfold foldC
  rw [if_neg (by omega), if_neg (by omega), if_neg (by omega), if_neg (by omega), hl]
  dsimp only
  rw [if_neg (by omega), if_neg (by omega), if_pos (by omega)]
 simp only [hb94, hb93, hb92, hb89, hb86, hb85, hb82, hb81, hb78, Qz, ne_eq] at hc76
 refine w_skip (b_norm (Zt (Zs (Zr ?_))))
 refine Xa ?_
 refine Ze (Zt (w_ret ?_))
 refine ret1 rfl rfl (fun w' hm => ⟨?_, hm.base (by simp)⟩)
 unfold foldC
 rw [if_neg (by omega), if_neg (by omega), if_neg (by omega), if_neg (by omega), hl]
 dsimp only
 rw [if_neg (by omega), if_neg (by omega), if_neg (by omega)]
 rfl
end Go.Proofs.YtnflcekodobdlaaGreatDoor
