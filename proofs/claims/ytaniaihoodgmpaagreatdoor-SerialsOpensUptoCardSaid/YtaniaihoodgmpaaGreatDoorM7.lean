/- Of the proofs of YtaniaihoodgmpaaGreatDoor: Vb Vc Vd Ve Vf Ua Ub Uc Ud Ue Uf Ug, put together. -/
import Derived.Test.YtaniaihoodgmpaaGreatDoorM5
import Derived.Test.YtaniaihoodgmpaaGreatDoorM2
import Derived.Test.YtaniaihoodgmpaaGreatDoorM6
import Derived.Test.YtaniaihoodgmpaaGreatDoorM1
import Derived.Test.YtaniaihoodgmpaaGreatDoorM3
import Derived.Test.YtaniaihoodgmpaaGreatDoorM4
set_option linter.unusedVariables false
set_option linter.unusedSimpArgs false
set_option maxRecDepth 100000

namespace Go.Proofs.YtaniaihoodgmpaaGreatDoor
open Go.RowKit Go.PK
theorem c_Dig1 (n : Int) (w : World) (h0 : 0 ≤ n) (hn : in64 n) (ih : 10 ≤ n → ∀ w1, Calls Tryz.prog 60 #[.int .i64 (n / 10)] w1 fun e w2 => e = .returned (.string (itoaS (n / 10))) ∧ Later w1 w2) :
  Calls Tryz.prog 60 #[.int .i64 n] w fun e w' => e = .returned (.string (itoaS n)) ∧ Later w w' := by
 refine enter (vs := [.int .i64 n]) Tryz.func60 rfl Tryz.ntmps60 rfl ?_
 refine Zs (Zr ?_)
 refine Xa ?_
 refine Ze (Zt (Zs (Zr ?_)))
 refine Xm ?_
 refine Xv (v := Value.int .i64 (n % 10)) rfl (by rw [← Int.tmod_eq_emod_of_nonneg h0]; exact v_rem rfl rfl (by decide)) ?_
 refine Xv (v := Value.int .i64 (48 + n % 10)) rfl (v_addi rfl rfl rfl (by omega)) ?_
 refine Xv (v := Value.int .u8 ((UInt8.ofNat (48 + (n % 10).toNat)).toNat : Nat)) rfl (by rw [← dig_c h0, Int.tmod_eq_emod_of_nonneg h0]; exact v_conv u3 u5 rfl) ?_
 refine x_buildSliceL rfl rfl rfl u45 sz5 zr5 rfl rfl rfl ?_
 intro p8
 refine Xv rfl (v_toStr [UInt8.ofNat (48 + (n % 10).toNat)] u45 u5 u9 rfl rfl (fun j hj => at_ownL (vs := [Value.int .u8 (UInt8.ofNat (48 + (n % 10).toNat)).toNat]) (.head _) (by match j, hj with | 0, _ => rfl))) ?_
 refine Xa ?_
 refine Ze (Zt (Zs (Zs (Zr ?_))))
 refine Xm ?_
 refine Xb rfl (v_lss rfl rfl) fun b11 hb11 => ?_
 refine Ze (Zt ?_)
 refine w_cond rfl (fun hc11 => ?_) (fun hc11 => ?_)
 ·simp only [hb11, Qz, ne_eq] at hc11
  refine Zs (Zr ?_)
  refine Xm ?_
  refine Xa ?_
  refine Ze (Zt (w_ret (t_ret ?_)))
  refine ret1 rfl rfl (fun w' hm => ⟨?_, hm.base (by simp)⟩)
  rw [itoaS_small h0 (by omega)]
 simp only [hb11, Qz, ne_eq] at hc11
 have h10 : 10 ≤ n := by omega
 refine w_skip (Zt (Zs (Zr ?_)))
 refine Xm ?_
 refine Xv rfl (v_quoi (c := n / 10) rfl rfl (by decide) (Int.tdiv_eq_ediv_of_nonneg h0) (by unfold in64 at hn; omega)) ?_
 refine x_callv rfl rfl rfl Tryz.func60 Zk rfl (fun w1 hw1 => ih h10 w1) ?_
 refine Xm ?_
 refine Xv rfl (v_sadd rfl rfl (by have := itoaS_size (n := n / 10) (by unfold in64 at hn ⊢; omega); rw [show (⟨#[UInt8.ofNat (48 + (n % 10).toNat)]⟩ : ByteArray).size = 1 from rfl]; omega)) ?_
 refine Xa ?_
 refine Ze (Zt (w_ret ?_))
 refine ret1 rfl rfl (fun w' hm => ⟨?_, hm.base (by simp)⟩)
 rw [itoaS_big h10]
theorem c_Dig : ∀ (m : Nat) (n : Int) (w : World), 0 ≤ n → in64 n → n.toNat ≤ m → Calls Tryz.prog 60 #[.int .i64 n] w fun e w' => e = .returned (.string (itoaS n)) ∧ Later w w'
 | 0, n, w, h0, hn, h => c_Dig1 n w h0 hn (fun h10 => by omega)
 | m + 1, n, w, h0, hn, h => c_Dig1 n w h0 hn (fun h10 w1 => c_Dig m (n / 10) w1 (by omega) (by unfold in64 at hn ⊢; omega) (by omega))
theorem c_Digits (n : Int) (w : World) (h0 : 0 ≤ n) (hn : in64 n) : Calls Tryz.prog 60 #[.int .i64 n] w fun e w' => e = .returned (.string (itoaS n)) ∧ Later w w' := c_Dig n.toNat n w h0 hn (Nat.le_refl _)
theorem c_has (s t : ByteArray) (i : Nat) (w : World) (hs : s.size ≤ 2000000) (hi : i ≤ 3000000) (ht : t.size ≤ 100) :
  Calls Tryz.prog 93 #[.string s, .int .i64 (i : Nat), .string t] w fun e w' => e = .returned (.bool (hasR s i t)) ∧ Later w w' := by
 refine enter (vs := [.string s, .int .i64 (i : Nat), .string t]) Tryz.func93 rfl Tryz.ntmps93 rfl ?_
 refine Zs (Zr ?_)
 refine Xa ?_
 refine Ze (Zt (Zs (Zr ?_)))
 refine Xm ?_
 refine Xm ?_
 refine Xv rfl (v_len_str u9 rfl) ?_
 refine Xv rfl (v_addi (c := ((i + t.size : Nat) : Int)) rfl rfl (by omega) (by omega)) ?_
 refine Xm ?_
 refine Xv rfl (v_len_str u9 rfl) ?_
 refine Xb rfl (v_leq rfl rfl) fun b13 hb13 => ?_
 refine Xm ?_
 refine Xg ?_
 refine Xg ?_
 refine Xg ?_
 refine Xg ?_
 refine Xi rfl rfl rfl (fun hg0 => by subst hg0; (try simp only [Qy]); exact v_len_str u9 rfl) ?_
 refine x_if [] (v := Value.int .i64 ((i + t.size : Nat) : Int)) rfl rfl rfl rfl rfl (fun hg => by obtain ⟨hg0, _⟩ := hg; subst hg0; (try simp only [Qy]); exact v_addi rfl rfl (by omega) (by omega)) ?_
 refine Xi rfl rfl rfl (fun hg0 => by subst hg0; (try simp only [Qy]); exact v_cut (i := i) (j := i + t.size) u9 rfl rfl rfl (by have h9 := of_decide_eq_true hb13.symm; omega) (by have h9 := of_decide_eq_true hb13.symm; omega)) ?_
 refine Xg ?_
 refine Xj rfl rfl rfl (fun hg0 => by subst hg0; (try simp only [Qy]); exact v_seql rfl rfl) fun b23 hb23 => ?_
 refine Xb rfl (v_and rfl rfl) fun b24 hb24 => ?_
 refine Xa ?_
 refine Ze (Zt (w_ret ?_))
 refine ret1 rfl rfl (fun w' hm => ⟨?_, hm.base (by simp)⟩)
 have e : b24 = hasR s i t := by
  rw [hb24, hb23, hb13]
  unfold hasR
  congr 1
  exact decide_eq_decide.2 (by omega)
 rw [e]
theorem c_value (s : ByteArray) (i : Nat) (w : World) (hs : s.size ≤ 2000000) (hi : i ≤ 3000000) :
  Calls Tryz.prog 78 #[.string s, .int .i64 (i : Nat)] w fun e w' => e = .returned (.tuple #[.int .i64 (valR s i).1, .int .i64 ((valR s i).2.1 : Nat), .bool (valR s i).2.2]) ∧ Later w w' := by
 refine enter (vs := [.string s, .int .i64 (i : Nat)]) Tryz.func78 rfl Tryz.ntmps78 rfl ?_
 refine Zs (Zr ?_)
 refine Xa ?_
 refine Xa ?_
 refine Xa ?_
 refine Ze (Zt (Zs (Zr ?_)))
 refine Xa ?_
 refine Ze (Zt (Zs (Zr ?_)))
 refine Xm ?_
 refine Xa ?_
 refine Ze (Zt (Zs (w_block ?_)))
 refine w_loop (σ := Nat) (fun k => k ≤ 8 ∧ k ≤ ((bl s).drop i).length ∧ ∀ c ∈ ((bl s).drop i).take k, digB8 c = true) (fun k => [(0, Value.string s), (1, Value.int .i64 ((i + k : Nat) : Int)), (7, Value.int .i64 ((numF (((bl s).drop i).take k) 0 : Nat) : Int)), (8, Value.int .i64 (i : Nat))]) (fun k => []) (fun k => [(w, fun _ => True)]) (fun k => 8 - k) (0) (⟨Nat.zero_le _, Nat.zero_le _, fun c hc => by cases hc⟩) (l_start Zu (fun _ h => h)) ?_
 rintro k ⟨hk8, hkl, hkd⟩
 refine w_state ([(0, Value.string s), (1, Value.int .i64 ((i + k : Nat) : Int)), (7, Value.int .i64 ((numF (((bl s).drop i).take k) 0 : Nat) : Int)), (8, Value.int .i64 (i : Nat))]) ([]) ([(w, fun _ => True)]) ?_
 have hdl : ((bl s).drop i).length = s.size - i := by rw [List.length_drop, bl_len]
 have hn8 : numF (((bl s).drop i).take k) 0 < 100000000 := numF_lt8 hkd (by rw [List.length_take]; omega)
 have hgt : ∀ h : k < ((bl s).drop i).length, ((bl s).drop i)[k] = byteAt s (i + k) := fun h => by rw [List.getElem_drop]; exact bl_get _
 refine Zs (Zs (Zr ?_))
 refine Xm ?_
 refine Xm ?_
 refine Xv rfl (v_len_str u9 rfl) ?_
 refine Xb rfl (v_lss rfl rfl) fun b13 hb13 => ?_
 refine Xm ?_
 refine Xg ?_
 refine Xg ?_
 refine Xi rfl rfl rfl (fun hg0 => by subst hg0; (try simp only [Qy]); exact v_index (j := i + k) u9 rfl rfl (by have h9 := of_decide_eq_true hb13.symm; omega)) ?_
 refine Xj rfl rfl rfl (fun hg0 => by subst hg0; (try simp only [Qy]); exact v_geq rfl rfl) fun b18 hb18 => ?_
 refine Xb rfl (v_and rfl rfl) fun b19 hb19 => ?_
 refine Xm ?_
 refine Xg ?_
 refine Xg ?_
 refine Xi rfl rfl rfl (fun hg0 => by subst hg0; (try simp only [Qy]); exact v_index (j := i + k) u9 rfl rfl (by have h9 := (Bool.and_eq_true _ _ ▸ hb19.symm : _ ∧ _).1; rw [h9] at hb13; have h8 := of_decide_eq_true hb13.symm; omega)) ?_
 refine Xj rfl rfl rfl (fun hg0 => by subst hg0; (try simp only [Qy]); exact v_leq rfl rfl) fun b24 hb24 => ?_
 refine Xb rfl (v_and rfl rfl) fun b25 hb25 => ?_
 refine Xm ?_
 refine Xg ?_
 refine Xg ?_
 refine x_if [] (v := Value.int .i64 (k : Nat)) rfl rfl rfl rfl rfl (fun hg => by obtain ⟨hg0, _⟩ := hg; subst hg0; (try simp only [Qy]); exact v_subi rfl rfl (by omega) (by omega)) ?_
 refine Xj rfl rfl rfl (fun hg0 => by subst hg0; (try simp only [Qy]); exact v_lss rfl rfl) fun b30 hb30 => ?_
 refine Xb rfl (v_and rfl rfl) fun b31 hb31 => ?_
 refine Ze (Zt ?_)
 refine w_cond rfl (fun hc31 => ?_) (fun hc31 => ?_)
 ·simp only [hb31, hb30, hb25, hb24, hb19, hb18, hb13, Qz, ne_eq] at hc31
  have hks : i + k < s.size := by omega
  have hkl2 : k < ((bl s).drop i).length := by omega
  have hdk : isDig (byteAt s (i + k)) := by unfold isDig; omega
  have hdb : digB8 (byteAt s (i + k)) = true := decide_eq_true (by omega)
  have ht2 : ((bl s).drop i).take (k + 1) = ((bl s).drop i).take k ++ [byteAt s (i + k)] := by rw [← hgt hkl2, List.take_append_getElem hkl2]
  have hsn : (numF (((bl s).drop i).take (k + 1)) 0 : Int) = 10 * (numF (((bl s).drop i).take k) 0 : Nat) + ((byteAt s (i + k)).toNat - 48 : Int) := by
   rw [ht2, numF_snoc]; unfold isDig at hdk; omega
  refine w_skip (Zt (w_block (Zs (Zr ?_))))
  refine Xm ?_
  refine Xv rfl (v_muli rfl rfl rfl Zo) ?_
  refine Xm ?_
  refine Xm ?_
  refine Xv rfl (v_index (j := i + k) u9 rfl rfl (by omega)) ?_
  refine Xv rfl (v_sub rfl rfl) ?_
  refine Xv rfl (v_conv u5 u3 rfl) ?_
  refine Xv rfl (v_addi (c := ((numF (((bl s).drop i).take (k + 1)) 0 : Nat) : Int)) rfl rfl (by rw [dig_conv hdk]; exact hsn.symm) (by unfold isDig at hdk; omega)) ?_
  refine Xa ?_
  refine Ze (Zt (Zr ?_))
  refine Xm ?_
  refine Xv rfl (v_addi (c := ((i + (k + 1) : Nat) : Int)) rfl rfl (by omega) (by omega)) ?_
  refine Xa ?_
  refine Ze (b_norm ?_)
  exact l_norm (k + 1) ⟨by omega, by omega, fun c hc => by rw [ht2] at hc; rcases List.mem_append.1 hc with h | h; (· exact hkd c h); rw [List.mem_singleton.1 h]; exact hdb⟩ (by omega) Zu (fun _ h => h)
 simp only [hb31, hb30, hb25, hb24, hb19, hb18, hb13, Qz, ne_eq] at hc31
 have hst : k = 8 ∨ ∀ h : k < ((bl s).drop i).length, digB8 ((bl s).drop i)[k] = false := by
  by_cases h8 : k = 8
  ·exact .inl h8
  refine .inr fun h => ?_
  rw [hgt h]
  refine decide_eq_false fun hd => ?_
  rcases hc31 with ((h9 | h9) | h9) | h9 <;> omega
 have hV := val_at' hkd hkl hk8 hst
 refine w_exit ?_
 refine t_exit ?_
 refine t_exit ?_
 refine b_hit ?_
 refine Zt (Zs (Zs (Zr ?_)))
 refine Xm ?_
 refine Xm ?_
 refine Xb rfl (v_eql rfl rfl) fun b44 hb44 => ?_
 refine Xm ?_
 refine Xg ?_
 refine Xg ?_
 refine x_if [] (v := Value.int .i64 (k : Nat)) rfl rfl rfl rfl rfl (fun hg => by obtain ⟨hg0, _⟩ := hg; subst hg0; (try simp only [Qy]); exact v_subi rfl rfl (by omega) (by omega)) ?_
 refine Xj rfl rfl rfl (fun hg0 => by subst hg0; (try simp only [Qy]); exact v_gtr rfl rfl) fun b49 hb49 => ?_
 refine Xb rfl (v_or rfl rfl) fun b50 hb50 => ?_
 refine Xm ?_
 refine Xg ?_
 refine Xg ?_
 refine x_if [] (v := Value.int .i64 (k : Nat)) rfl rfl rfl rfl rfl (fun hg => by obtain ⟨hg0, _⟩ := hg; subst hg0; (try simp only [Qy]); exact v_subi rfl rfl (by omega) (by omega)) ?_
 refine Xj rfl rfl rfl (fun hg0 => by subst hg0; (try simp only [Qy]); exact v_gtr rfl rfl) fun b55 hb55 => ?_
 refine Xg ?_
 refine x_if [(b50, false)] rfl rfl rfl rfl rfl (fun hg => by obtain ⟨hg0, hg1, _⟩ := hg; subst hg0; subst hg1; (try simp only [Qy]); exact v_move rfl) ?_
 refine x_if [(b50, false)] rfl rfl rfl rfl rfl (fun hg => by obtain ⟨hg0, hg1, _⟩ := hg; subst hg0; subst hg1; (try simp only [Qy]); exact v_move rfl) ?_
 refine x_if [(b50, false)] rfl rfl rfl rfl rfl (fun hg => by obtain ⟨hg0, hg1, _⟩ := hg; subst hg0; subst hg1; (try simp only [Qy]); exact v_index (j := i) u9 rfl rfl (by have h9 := of_decide_eq_true hb55.symm; omega)) ?_
 refine x_ifb [(b50, false)] rfl rfl rfl rfl rfl (fun hg => by obtain ⟨hg0, hg1, _⟩ := hg; subst hg0; subst hg1; (try simp only [Qy]); exact v_eql rfl rfl) fun b60 hb60 => ?_
 refine Xj rfl rfl rfl (fun hg0 => by subst hg0; (try simp only [Qy]); exact v_and rfl rfl) fun b61 hb61 => ?_
 refine Xb rfl (v_or rfl rfl) fun b62 hb62 => ?_
 refine Ze (Zt ?_)
 refine w_cond rfl (fun hc62 => ?_) (fun hc62 => ?_)
 ·simp only [hb62, hb61, hb60, hb55, hb50, hb49, hb44, Qz, ne_eq] at hc62
  refine Zs (Zr ?_)
  refine Xm ?_
  refine Xa ?_
  refine Xa ?_
  refine Xa ?_
  refine Ze (Zt (w_ret (t_ret ?_)))
  refine ret3 rfl rfl rfl rfl (fun w' hm => ⟨?_, hm.base (by simp)⟩)
  rcases hV with ⟨e9, _⟩ | ⟨_, hno⟩
  ·rw [e9]
  exact absurd (by omega) hno
 simp only [hb62, hb61, hb60, hb55, hb50, hb49, hb44, Qz, ne_eq] at hc62
 refine w_skip (Zt (Zs (Zr ?_)))
 refine Xm ?_
 refine Xm ?_
 refine Xa ?_
 refine Xa ?_
 refine Xa ?_
 refine Ze (Zt (w_ret ?_))
 refine ret3 rfl rfl rfl rfl (fun w' hm => ⟨?_, hm.base (by simp)⟩)
 rcases hV with ⟨_, hno⟩ | ⟨e9, _⟩
 ·exact absurd hno (by omega)
 rw [e9]
open Go.RowKit Go.PK
theorem c_rWrite {D : Nat → Prop} {v1 v2 : Value} (p : Pat) (w : World) (hp : patRd D w p v1 v2) :
  Calls Tryz.prog 25 #[.agg #[.int .i64 p.first, .int .i64 p.days, v1, v2]] w fun e w' => e = .returned (.string (writeQ p)) ∧ Later w w' := by
 obtain ⟨hp1, hp2, h1, h2⟩ := id hp
 obtain ⟨A1, c1, rfl, hlc1, hmx1, hB1⟩ := id h1
 obtain ⟨A2, c2, rfl, hlc2, hmx2, hB2⟩ := id h2
 obtain ⟨bL, oL, hL0, hLk⟩ := rd_blk h1
 obtain ⟨bS, oS, hS0, hSk⟩ := rd_blk h2
 refine enter (vs := [.agg #[.int .i64 p.first, .int .i64 p.days, .slice A1 p.lv.length c1, .slice A2 p.st.length c2]]) Tryz.func25 rfl Tryz.ntmps25 rfl ?_
 refine Zs (Zr ?_)
 refine x_box rfl rfl rfl rfl ?_
 intro p1
 refine Xa ?_
 refine Ze (Zt (Zs (Zr ?_)))
 refine Xv rfl (v_load_blk (e := 26) (fz := (0, 0)) (cs := #[Value.int .i64 p.first, Value.int .i64 p.days, Value.slice A1 p.lv.length c1, Value.slice A2 p.st.length c2]) u26 rfl rfl (.head _) (by exact sz26)) ?_
 refine x_callb rfl rfl rfl Tryz.func35 Zk rfl (fun w1 hw1 => c_rRight p w1 (hp.keep (Kept.later (hw1.base (by simp))))) fun b7 hb7 => ?_
 refine Xa ?_
 refine Ze (Zt (Zs (Zs (Zr ?_))))
 refine Xm ?_
 refine Xb rfl (v_not rfl) fun b9 hb9 => ?_
 refine Ze (Zt ?_)
 refine w_cond rfl (fun hc9 => ?_) (fun hc9 => ?_)
 ·have hno : ¬rightQ p := fun h => by rw [hb9, hb7, decide_eq_true h] at hc9; simp at hc9
  refine Zs (Zr ?_)
  refine Xa ?_
  refine Ze (Zt (w_ret (t_ret ?_)))
  refine ret1 rfl rfl (fun w' hm => ⟨?_, hm.base (by simp)⟩)
  unfold writeQ; rw [if_neg hno]
 have hq : rightQ p := by rw [hb9, hb7] at hc9; simpa using hc9
 have q1 := hq.1.1
 have q2 := hq.1.2.1
 have q3 := hq.1.2.2.1
 have hst0 : in64 (p.st.getD 0 0) := (hSk 0 (by omega)).2
 have hsz := wrTo_sz p (rd_in h2) (rd_in h1) hp2 q3 q1
 have hdy := hq.2.2.1
 refine w_skip (Zt (Zs ?_))
 refine rg_draw 17 [(true, 0), (true, 1), (true, 2), (true, 3), (true, 4), (true, 5), (true, 6), (true, 7), (true, 8), (true, 9), (true, 10), (true, 11), (true, 12), (true, 13), (true, 14), (true, 15), (true, 16)] Zk Zk ?_
 refine Xv rfl (v_fieldAddr (off' := 1) u26 rfl sz3 (by decide) rfl rfl) ?_
 refine Xv rfl (Vl u3 rfl) ?_
 refine x_callv rfl rfl rfl Tryz.func60 Zk rfl (fun w1 hw1 => c_Digits p.days w1 (by omega) hp2) ?_
 refine Xv rfl (v_sadd (s := sEvery) rfl rfl (by have ha := itoaS_size hp2; have hb0 := itoaS_size hst0; have hc0 := textR_sz p.first; simp only [ByteArray.size_append, show sEvery.size = 6 from rfl, show sFrom.size = 6 from rfl, show sColon.size = 2 from rfl]; omega)) ?_
 refine Xv rfl (v_sadd (u := sFrom) rfl rfl (by have ha := itoaS_size hp2; have hb0 := itoaS_size hst0; have hc0 := textR_sz p.first; simp only [ByteArray.size_append, show sEvery.size = 6 from rfl, show sFrom.size = 6 from rfl, show sColon.size = 2 from rfl]; omega)) ?_
 refine Xv rfl (v_fieldAddr (off' := 0) u26 rfl sz3 (by decide) rfl rfl) ?_
 refine Xv rfl (Vl u3 rfl) ?_
 refine x_callv rfl rfl rfl Tryz.func61 Zk rfl (fun w1 hw1 => c20 _ w1 hp1) ?_
 refine Xv rfl (v_sadd rfl rfl (by have ha := itoaS_size hp2; have hb0 := itoaS_size hst0; have hc0 := textR_sz p.first; simp only [ByteArray.size_append, show sEvery.size = 6 from rfl, show sFrom.size = 6 from rfl, show sColon.size = 2 from rfl]; omega)) ?_
 refine Xv rfl (v_sadd (u := sColon) rfl rfl (by have ha := itoaS_size hp2; have hb0 := itoaS_size hst0; have hc0 := textR_sz p.first; simp only [ByteArray.size_append, show sEvery.size = 6 from rfl, show sFrom.size = 6 from rfl, show sColon.size = 2 from rfl]; omega)) ?_
 refine Xv rfl (v_fieldAddr (off' := 3) u26 rfl sz22 (by decide) rfl rfl) ?_
 refine Xv rfl (Vl u22 rfl) ?_
 refine Xv rfl (v_indexAddr (j := 0) u22 sz3 (congrArg (fun A => some (Value.slice A p.st.length c2)) (hS0 (by omega)).1) rfl Zo rfl) ?_
 refine Xv rfl (v_load u3 rfl rfl (at_ro (.head _) trivial (by rw [Nat.mul_one]; exact (hSk (0) (by omega)).1))) ?_
 refine x_callv rfl rfl rfl Tryz.func60 Zk rfl (fun w1 hw1 => c_Digits (p.st.getD 0 0) w1 hq.1.2.2.2.2.1 hst0) ?_
 refine Xv rfl (v_sadd rfl rfl (by have ha := itoaS_size hp2; have hb0 := itoaS_size hst0; have hc0 := textR_sz p.first; simp only [ByteArray.size_append, show sEvery.size = 6 from rfl, show sFrom.size = 6 from rfl, show sColon.size = 2 from rfl]; omega)) ?_
 refine Xa ?_
 refine Ze (Zt (Zs (Zs (Zr ?_))))
 refine Xa ?_
 refine Ze (Zt (w_block ?_))
 refine w_loop (σ := Nat) (fun k => k < p.lv.length) (fun k => [(1, .pointer (some ⟨p1, 0, none⟩)), (4, Value.string (wrTo p k)), (5, Value.int .i64 ((k + 1 : Nat) : Int))]) (fun k => [(p1, Obj.cells #[Value.int .i64 p.first, Value.int .i64 p.days, Value.slice A1 p.lv.length c1, Value.slice A2 p.st.length c2] 26)]) (fun k => [(w, fun _ => True)]) (fun k => p.lv.length - k) (0) (by omega) (l_start Zu (fun _ h => h)) ?_
 rintro k hk
 refine w_state ([(1, .pointer (some ⟨p1, 0, none⟩)), (4, Value.string (wrTo p k)), (5, Value.int .i64 ((k + 1 : Nat) : Int))]) ([(p1, Obj.cells #[Value.int .i64 p.first, Value.int .i64 p.days, Value.slice A1 p.lv.length c1, Value.slice A2 p.st.length c2] 26)]) ([(w, fun _ => True)]) ?_
 refine Zs (Zs (Zr ?_))
 refine Xm ?_
 refine Xv rfl (v_fieldAddr (off' := 3) u26 rfl sz22 (by decide) rfl rfl) ?_
 refine Xv rfl (Vl u22 rfl) ?_
 refine Xv rfl (v_len_slice u22 rfl) ?_
 refine Xb rfl (v_lss rfl rfl) fun b30 hb30 => ?_
 refine Ze (Zt ?_)
 refine w_cond rfl (fun hc30 => ?_) (fun hc30 => ?_)
 ·simp only [hb30, Qz, ne_eq] at hc30
  have hkl : k + 1 < p.lv.length := by omega
  have hi1 : in64 (p.st.getD (k + 1) 0) := (hSk (k + 1) (by omega)).2
  have hi2 : in64 (p.lv.getD (k + 1) 0) := (hLk (k + 1) (by omega)).2
  have hz := hsz k (by omega)
  have ha := itoaS_size hi1
  have hb0 := itoaS_size hi2
  obtain ⟨a1, a2, a3, a4⟩ := hq.at (j := k + 1) (by omega) hkl
  refine w_skip (Zt (Zs (w_block ?_)))
  refine rg_draw 18 [(true, 0), (true, 1), (true, 2), (true, 3), (true, 4), (true, 5), (true, 6), (true, 7), (true, 8), (true, 9), (true, 10), (true, 11), (true, 12), (true, 13), (true, 14), (true, 15), (true, 16), (true, 17)] Zk Zk ?_
  refine Xm ?_
  refine Xv rfl (v_sadd (u := sComma) rfl rfl (by rw [show sComma.size = 2 from rfl]; omega)) ?_
  refine Xv rfl (v_fieldAddr (off' := 3) u26 rfl sz22 (by decide) rfl rfl) ?_
  refine Xv rfl (Vl u22 rfl) ?_
  refine Xm ?_
  refine Xv rfl (v_indexAddr u22 sz3 (congrArg (fun A => some (Value.slice A p.st.length c2)) (hS0 (by omega)).1) rfl Zo rfl) ?_
  refine Xv rfl (v_load u3 rfl rfl (at_ro (.head _) trivial (by rw [Nat.mul_one]; exact (hSk (k + 1) (by omega)).1))) ?_
  refine x_callv rfl rfl rfl Tryz.func60 Zk rfl (fun w1 hw1 => c_Digits (p.st.getD (k + 1) 0) w1 (by omega) hi1) ?_
  refine Xv rfl (v_sadd rfl rfl (by simp only [ByteArray.size_append, show sComma.size = 2 from rfl]; omega)) ?_
  refine Xv rfl (v_sadd (u := slash) rfl rfl (by simp only [ByteArray.size_append, show sComma.size = 2 from rfl, show slash.size = 1 from rfl]; omega)) ?_
  refine Xv rfl (v_fieldAddr (off' := 2) u26 rfl sz22 (by decide) rfl rfl) ?_
  refine Xv rfl (Vl u22 rfl) ?_
  refine Xm ?_
  refine Xv rfl (v_indexAddr u22 sz3 (congrArg (fun A => some (Value.slice A p.lv.length c1)) (hL0 (by omega)).1) rfl Zo rfl) ?_
  refine Xv rfl (v_load u3 rfl rfl (at_ro (.head _) trivial (by rw [Nat.mul_one]; exact (hLk (k + 1) (by omega)).1))) ?_
  refine x_callv rfl rfl rfl Tryz.func60 Zk rfl (fun w1 hw1 => c_Digits (p.lv.getD (k + 1) 0) w1 (by omega) hi2) ?_
  refine Xv rfl (v_sadd rfl rfl (by simp only [ByteArray.size_append, show sComma.size = 2 from rfl, show slash.size = 1 from rfl]; omega)) ?_
  refine Xv (v := Value.string (wrTo p (k + 1))) rfl (by rw [show wrTo p (k + 1) = wrTo p k ++ sComma ++ itoaS (p.st.getD (k + 1) 0) ++ slash ++ itoaS (p.lv.getD (k + 1) 0) from by rw [wrTo]; simp only [ByteArray.append_assoc]]; exact v_assign rfl) ?_
  refine Ze (b_norm (Zt (Zr ?_)))
  refine Xm ?_
  refine Xv rfl (v_addi rfl rfl rfl Zo) ?_
  refine Xa ?_
  refine Ze ?_
  exact l_norm (k + 1) (show k + 1 < p.lv.length by omega) (by omega) Zu (fun _ h => h)
 simp only [hb30, Qz, ne_eq] at hc30
 have ek : k = p.lv.length - 1 := by omega
 refine w_exit ?_
 refine t_exit ?_
 refine t_exit ?_
 refine b_hit ?_
 refine Zt (Zs (Zr ?_))
 refine Xm ?_
 refine Xa ?_
 refine Ze (Zt (w_ret ?_))
 refine ret1 rfl rfl (fun w' hm => ⟨?_, hm.base (by simp)⟩)
 unfold writeQ; rw [if_pos hq, ← ek]
theorem readC_1 (t : ByteArray) (h : (readC t).2 = 0) : textR (readC t).1 = t := by
 unfold readC at h ⊢
 split
 ·rename_i hc; exact hc.2.2
 rename_i hc; rw [if_neg hc] at h; cases h
theorem readC_back {n : Int} (h : okDay n) : readC (textR n) = (n, 0) := by
 obtain ⟨y, m, d, h1, h2, h3, h4⟩ := textR_dig h
 have hr := civ_rng h
 have hc := civ_is h
 have dg : ∀ c : Int, ((digB c).toNat : Int) = 48 + c % 10 := fun c => by
  unfold digB
  rw [UInt8.toNat_ofNat_of_lt' (by show _ < 256; omega)]
  omega
 have ey : yO (textR n) = y := by
  rw [h1]
  show numO ⟨#[digB (y / 1000), digB (y / 100), digB (y / 10), digB y]⟩ = y
  rw [numO4 (isDig_digB _) (isDig_digB _) (isDig_digB _) (isDig_digB _), dg, dg, dg, dg]
  omega
 have em : mO (textR n) = m := by
  rw [h1]
  show numO ⟨#[digB (m / 10), digB m]⟩ = m
  rw [numO2 (isDig_digB _) (isDig_digB _), dg, dg]
  omega
 have ed : dO (textR n) = d := by
  rw [h1]
  show numO ⟨#[digB (d / 10), digB d]⟩ = d
  rw [numO2 (isDig_digB _) (isDig_digB _), dg, dg]
  omega
 have hv : validD y m d := by
  refine ⟨by omega, by omega, by omega, by omega, by omega, ?_⟩
  rw [h2, h3, h4]; exact hc.d2
 have hd : dayV y m d = n := by
  unfold dayV
  rw [if_pos hv, h2, h3, h4, Int.toNat_natCast]
  exact hc.is
 have hs : (textR n).size = 10 := by rw [h1]; rfl
 unfold readC
 rw [ey, em, ed, hd, if_pos ⟨hs, hv, rfl⟩]
open Go.RowKit Go.PK
set_option maxHeartbeats 4000000 in
theorem c_rRead (s : ByteArray) (w : World) (hs : s.size ≤ 2000000) :
  Calls Tryz.prog 64 #[.string s] w fun e w' => ∃ v1 v2, e = .returned (.tuple #[.agg #[.int .i64 (readPR readC s).1.first, .int .i64 (readPR readC s).1.days, v1, v2], .int .i64 (readPR readC s).2]) ∧ Later w w' ∧ patRd (fun b => w.heap.size ≤ b) w' (readPR readC s).1 v1 v2 := by
 refine enter (vs := [.string s]) Tryz.func64 rfl Tryz.ntmps64 rfl ?_
 refine Zs (Zr ?_)
 refine x_alloc rfl rfl rfl zr26 ?_
 intro p2
 refine Xa ?_
 refine Ze (Zt (Zs (Zr ?_)))
 refine x_alloc rfl rfl rfl zr26 ?_
 intro p4
 refine Ze (Zt (Zs (Zr ?_)))
 refine Xm ?_
 refine x_callb rfl rfl rfl Tryz.func93 Zk rfl (fun w1 hw1 => c_has s sEvery 0 w1 hs (by omega) (by decide)) fun b23 hb23 => ?_
 refine Xa ?_
 refine Ze (Zt (Zs (Zs (Zr ?_))))
 refine Xm ?_
 refine Xb rfl (v_not rfl) fun b25 hb25 => ?_
 refine Ze (Zt ?_)
 refine w_cond rfl (fun hc25 => ?_) (fun hc25 => ?_)
 ·have h1 : hasR s 0 sEvery = false := by rw [hb25, hb23] at hc25; simpa using hc25
  refine Zs (Zr ?_)
  refine Xv rfl (v_load_blk (e := 26) (fz := (0, 0)) (cs := #[Value.int .i64 0, Value.int .i64 0, Value.slice none 0 0, Value.slice none 0 0]) u26 rfl rfl (.head _) (by exact sz26)) ?_
  refine x_store0 (cs := #[Value.int .i64 0, Value.int .i64 0, Value.slice none 0 0, Value.slice none 0 0]) (e := 26) (l2 := []) [(p4, Obj.cells #[Value.int .i64 0, Value.int .i64 0, Value.slice none 0 0, Value.slice none 0 0] 26)] rfl rfl rfl rfl sz26 rfl rfl ?_
  refine Xa ?_
  refine Ze (Zt (w_ret (t_ret ?_)))
  have hno : readPR readC s = (zeroPat, 11) := by unfold readPR; rw [if_neg (fun h => by unfold okR25 hdR at h; simp only [Bool.and_eq_true, decide_eq_true_eq] at h; rw [h1] at h; simp at h)]
  refine retct rfl rfl rfl (.tail _ (.head _)) u26 rfl sz26 (fun w' hm => ⟨.slice none 0 0, .slice none 0 0, by rw [hno]; rfl, hm.base (by simp), ?_⟩)
  rw [hno]
  exact ⟨by unfold in64; decide, by unfold in64; decide, ⟨none, 0, rfl, Nat.le_refl _, Nat.zero_le _, fun h => absurd h (by decide)⟩, ⟨none, 0, rfl, Nat.le_refl _, Nat.zero_le _, fun h => absurd h (by decide)⟩⟩
 have h1 : hasR s 0 sEvery = true := by rw [hb25, hb23] at hc25; simpa using hc25
 refine w_skip (Zt (Zs (Zr ?_)))
 have hv6 := val_at s 6
 refine Xm ?_
 refine x_callv rfl rfl rfl Tryz.func78 Zk rfl (fun w1 hw1 => c_value s 6 w1 hs (by omega)) ?_
 refine Xm ?_
 refine Xv rfl (v_extract rfl rfl) ?_
 refine Xv rfl (v_extract rfl rfl) ?_
 refine Xb rfl (v_extract rfl rfl) fun b32 hb32 => ?_
 refine Xa ?_
 refine Xa ?_
 refine Xa ?_
 refine Ze (Zt (Zs (Zr ?_)))
 refine Xm ?_
 refine Xm ?_
 refine x_callb rfl rfl rfl Tryz.func93 Zk rfl (fun w1 hw1 => c_has s sFrom (valR s 6).2.1 w1 hs (by omega) (by decide)) fun b35 hb35 => ?_
 refine Xa ?_
 refine Ze (Zt (Zs (Zs (Zr ?_))))
 refine Xm ?_
 refine Xb rfl (v_not rfl) fun b37 hb37 => ?_
 refine Xm ?_
 refine Xg ?_
 refine Xj rfl rfl rfl (fun hg0 => by subst hg0; (try simp only [Qy]); exact v_not rfl) fun b40 hb40 => ?_
 refine Xb rfl (v_or rfl rfl) fun b41 hb41 => ?_
 refine Xm ?_
 refine Xg ?_
 refine x_if [] (v := Value.int .i64 (((valR s 6).2.1 + 16 : Nat) : Int)) rfl rfl rfl rfl rfl (fun hg => by obtain ⟨hg0, _⟩ := hg; subst hg0; (try simp only [Qy]); exact v_addi rfl rfl (by omega) (by omega)) ?_
 refine Xg ?_
 refine Xi rfl rfl rfl (fun hg0 => by subst hg0; (try simp only [Qy]); exact v_len_str u9 rfl) ?_
 refine Xj rfl rfl rfl (fun hg0 => by subst hg0; (try simp only [Qy]); exact v_gtr rfl rfl) fun b47 hb47 => ?_
 refine Xb rfl (v_or rfl rfl) fun b48 hb48 => ?_
 refine Ze (Zt ?_)
 refine w_cond rfl (fun hc48 => ?_) (fun hc48 => ?_)
 ·have h9 : ¬((valR s 6).2.2 = true ∧ hasR s (valR s 6).2.1 sFrom = true ∧ (valR s 6).2.1 + 16 ≤ s.size) := fun ⟨g1, g2, g3⟩ => by
   rw [hb48, hb47, hb41, hb40, hb37, hb35, hb32, g1, g2] at hc48
   simp at hc48; omega
  refine Zs (Zr ?_)
  refine Xv rfl (v_load_blk (e := 26) (fz := (0, 0)) (cs := #[Value.int .i64 0, Value.int .i64 0, Value.slice none 0 0, Value.slice none 0 0]) u26 rfl rfl (.head _) (by exact sz26)) ?_
  refine x_store0 (cs := #[Value.int .i64 0, Value.int .i64 0, Value.slice none 0 0, Value.slice none 0 0]) (e := 26) (l2 := []) [(p4, Obj.cells #[Value.int .i64 0, Value.int .i64 0, Value.slice none 0 0, Value.slice none 0 0] 26)] rfl rfl rfl rfl sz26 rfl rfl ?_
  refine Xa ?_
  refine Ze (Zt (w_ret (t_ret ?_)))
  have hno : readPR readC s = (zeroPat, 11) := by unfold readPR; rw [if_neg (fun h => by unfold okR25 hdR at h; simp only [Bool.and_eq_true, decide_eq_true_eq] at h; exact h9 ⟨h.1.1.1.1.1.2, h.1.1.1.1.2, h.1.1.1.2⟩)]
  refine retct rfl rfl rfl (.tail _ (.head _)) u26 rfl sz26 (fun w' hm => ⟨.slice none 0 0, .slice none 0 0, by rw [hno]; rfl, hm.base (by simp), ?_⟩)
  rw [hno]
  exact ⟨by unfold in64; decide, by unfold in64; decide, ⟨none, 0, rfl, Nat.le_refl _, Nat.zero_le _, fun h => absurd h (by decide)⟩, ⟨none, 0, rfl, Nat.le_refl _, Nat.zero_le _, fun h => absurd h (by decide)⟩⟩
 have h9 : (valR s 6).2.2 = true ∧ hasR s (valR s 6).2.1 sFrom = true ∧ (valR s 6).2.1 + 16 ≤ s.size := by
  rw [hb48, hb47, hb41, hb40, hb37, hb35, hb32] at hc48
  simp only [Bool.or_eq_false_iff, Bool.not_eq_false', decide_eq_false_iff_not] at hc48
  exact ⟨hc48.1.1, hc48.1.2, by omega⟩
 obtain ⟨h2, h3, h4⟩ := h9
 refine w_skip (Zt (Zs (Zr ?_)))
 refine Xm ?_
 refine Xm ?_
 refine Xv rfl (v_addi (c := (((valR s 6).2.1 + 6 : Nat) : Int)) rfl rfl (by omega) (by omega)) ?_
 refine Xm ?_
 refine Xv rfl (v_addi (c := (((valR s 6).2.1 + 16 : Nat) : Int)) rfl rfl (by omega) (by omega)) ?_
 refine Xv rfl (v_cut (i := (valR s 6).2.1 + 6) (j := (valR s 6).2.1 + 16) u9 rfl rfl rfl (by omega) (by omega)) ?_
 refine x_callv (v := .tuple #[.int .i64 (readC (dyR s)).1, .int .i64 (readC (dyR s)).2]) rfl rfl rfl Tryz.func94 Zk rfl (fun w1 hw1 => by
  have h := c27 (dyR s) w1 (by unfold okS dyR; rw [ByteArray.size_extract]; omega)
  rw [← readC_eq] at h
  exact h) ?_
 refine Xm ?_
 refine Xv rfl (v_extract rfl rfl) ?_
 refine Xv rfl (v_extract rfl rfl) ?_
 refine Xa ?_
 refine Xa ?_
 refine Ze (Zt (Zs (Zr ?_)))
 refine Xm ?_
 refine Xm ?_
 refine Xv rfl (v_addi (c := (((valR s 6).2.1 + 16 : Nat) : Int)) rfl rfl (by omega) (by omega)) ?_
 refine x_callb rfl rfl rfl Tryz.func93 Zk rfl (fun w1 hw1 => c_has s sColon ((valR s 6).2.1 + 16) w1 hs (by omega) (by decide)) fun b63 hb63 => ?_
 refine Xa ?_
 refine Ze (Zt (Zs (Zs (Zr ?_))))
 refine Xm ?_
 refine Xb rfl (v_neq rfl rfl) fun b65 hb65 => ?_
 refine Xm ?_
 refine Xg ?_
 refine Xj rfl rfl rfl (fun hg0 => by subst hg0; (try simp only [Qy]); exact v_not rfl) fun b68 hb68 => ?_
 refine Xb rfl (v_or rfl rfl) fun b69 hb69 => ?_
 refine Ze (Zt ?_)
 refine w_cond rfl (fun hc69 => ?_) (fun hc69 => ?_)
 ·have h9 : ¬((readC (dyR s)).2 = 0 ∧ hasR s ((valR s 6).2.1 + 16) sColon = true) := fun ⟨g1, g2⟩ => by
   rw [hb69, hb68, hb65, hb63, g1, g2] at hc69
   simp at hc69
  refine Zs (Zr ?_)
  refine Xv rfl (v_load_blk (e := 26) (fz := (0, 0)) (cs := #[Value.int .i64 0, Value.int .i64 0, Value.slice none 0 0, Value.slice none 0 0]) u26 rfl rfl (.head _) (by exact sz26)) ?_
  refine x_store0 (cs := #[Value.int .i64 0, Value.int .i64 0, Value.slice none 0 0, Value.slice none 0 0]) (e := 26) (l2 := []) [(p4, Obj.cells #[Value.int .i64 0, Value.int .i64 0, Value.slice none 0 0, Value.slice none 0 0] 26)] rfl rfl rfl rfl sz26 rfl rfl ?_
  refine Xa ?_
  refine Ze (Zt (w_ret (t_ret ?_)))
  have hno : readPR readC s = (zeroPat, 11) := by unfold readPR; rw [if_neg (fun h => by unfold okR25 hdR at h; simp only [Bool.and_eq_true, decide_eq_true_eq] at h; exact h9 ⟨h.1.1.2, h.1.2⟩)]
  refine retct rfl rfl rfl (.tail _ (.head _)) u26 rfl sz26 (fun w' hm => ⟨.slice none 0 0, .slice none 0 0, by rw [hno]; rfl, hm.base (by simp), ?_⟩)
  rw [hno]
  exact ⟨by unfold in64; decide, by unfold in64; decide, ⟨none, 0, rfl, Nat.le_refl _, Nat.zero_le _, fun h => absurd h (by decide)⟩, ⟨none, 0, rfl, Nat.le_refl _, Nat.zero_le _, fun h => absurd h (by decide)⟩⟩
 have h9 : (readC (dyR s)).2 = 0 ∧ hasR s ((valR s 6).2.1 + 16) sColon = true := by
  rw [hb69, hb68, hb65, hb63] at hc69
  simp only [Bool.or_eq_false_iff, Bool.not_eq_false', decide_eq_false_iff_not, ne_eq, Decidable.not_not] at hc69
  exact hc69
 obtain ⟨h5, h6⟩ := h9
 refine w_skip (Zt (Zs (Zr ?_)))
 refine Xm ?_
 refine Xm ?_
 refine Xv rfl (v_addi (c := (((valR s 6).2.1 + 18 : Nat) : Int)) rfl rfl (by omega) (by omega)) ?_
 refine x_callv (v := .tuple #[.int .i64 (stR s).1, .int .i64 ((stR s).2.1 : Nat), .bool (stR s).2.2]) rfl rfl rfl Tryz.func78 Zk rfl (fun w1 hw1 => c_value s ((valR s 6).2.1 + 18) w1 hs (by omega)) ?_
 refine Xm ?_
 refine Xv rfl (v_extract rfl rfl) ?_
 refine Xv rfl (v_extract rfl rfl) ?_
 refine Xb rfl (v_extract rfl rfl) fun b78 hb78 => ?_
 refine Xa ?_
 refine Xa ?_
 refine Xa ?_
 refine Ze (Zt (Zs (Zs (Zr ?_))))
 refine Xm ?_
 refine Xb rfl (v_not rfl) fun b80 hb80 => ?_
 refine Ze (Zt ?_)
 refine w_cond rfl (fun hc80 => ?_) (fun hc80 => ?_)
 ·have h7 : (stR s).2.2 = false := by rw [hb80, hb78] at hc80; simpa using hc80
  refine Zs (Zr ?_)
  refine Xv rfl (v_load_blk (e := 26) (fz := (0, 0)) (cs := #[Value.int .i64 0, Value.int .i64 0, Value.slice none 0 0, Value.slice none 0 0]) u26 rfl rfl (.head _) (by exact sz26)) ?_
  refine x_store0 (cs := #[Value.int .i64 0, Value.int .i64 0, Value.slice none 0 0, Value.slice none 0 0]) (e := 26) (l2 := []) [(p4, Obj.cells #[Value.int .i64 0, Value.int .i64 0, Value.slice none 0 0, Value.slice none 0 0] 26)] rfl rfl rfl rfl sz26 rfl rfl ?_
  refine Xa ?_
  refine Ze (Zt (w_ret (t_ret ?_)))
  have hno : readPR readC s = (zeroPat, 11) := by unfold readPR; rw [if_neg (fun h => by unfold okR25 hdR at h; simp only [Bool.and_eq_true, decide_eq_true_eq] at h; rw [h7] at h; simp at h)]
  refine retct rfl rfl rfl (.tail _ (.head _)) u26 rfl sz26 (fun w' hm => ⟨.slice none 0 0, .slice none 0 0, by rw [hno]; rfl, hm.base (by simp), ?_⟩)
  rw [hno]
  exact ⟨by unfold in64; decide, by unfold in64; decide, ⟨none, 0, rfl, Nat.le_refl _, Nat.zero_le _, fun h => absurd h (by decide)⟩, ⟨none, 0, rfl, Nat.le_refl _, Nat.zero_le _, fun h => absurd h (by decide)⟩⟩
 have h7 : (stR s).2.2 = true := by rw [hb80, hb78] at hc80; simpa using hc80
 have hn0 : (stR s).2.1 ≤ s.size := (val_ok h7).2.2.2.1
 have hok : okR25 readC s = true := by unfold okR25 hdR; rw [h1, h2, h3, decide_eq_true h4, decide_eq_true h5, h6, h7]; rfl
 refine w_skip (Zt (Zs (Zr ?_)))
 refine Xm ?_
 refine Xm ?_
 refine x_buildSliceL (cs := [Value.int .i64 0]) rfl rfl rfl u22 sz3 zr3 rfl rfl rfl ?_
 intro p84
 refine Xm ?_
 refine x_buildSliceL (cs := [Value.int .i64 (stR s).1]) rfl rfl rfl u22 sz3 zr3 rfl rfl rfl ?_
 intro p86
 refine Xv (v := Value.agg #[.int .i64 (readC (dyR s)).1, .int .i64 (valR s 6).1, .slice (some ⟨p84, 0, none⟩) 1 1, .slice (some ⟨p86, 0, none⟩) 1 1]) rfl (v_buildL (places := [(0, 1), (1, 1), (2, 1), (3, 1)]) u26 zr26 Zk rfl rfl) ?_
 refine x_alloc rfl rfl rfl zr26 ?_
 intro p13
 refine x_store0 [] rfl rfl rfl rfl sz26 rfl rfl ?_
 refine Ze (Zt (Zs (w_block ?_)))
 refine w_loop (σ := RowS × RowS × Nat × Nat × List (Int × Int)) (fun x => x.2.2.1 ≤ s.size ∧ s.size - x.2.2.1 < x.2.2.2.1 ∧ x.2.2.2.2.length ≤ x.2.2.1 ∧ rowOK 1 x.1 (x.2.2.2.2.length + 1) (((stR s).1 :: x.2.2.2.2.map (·.1)).map (Value.int .i64)) ∧ rowOK 1 x.2.1 (x.2.2.2.2.length + 1) (((0 : Int) :: x.2.2.2.2.map (·.2)).map (Value.int .i64)) ∧ tailR s (s.size + 1) (stR s).2.1 = (tailR s x.2.2.2.1 x.2.2.1).map (x.2.2.2.2 ++ ·) ∧ ∀ z ∈ x.2.2.2.2, in64 z.1 ∧ in64 z.2) (fun x => [(0, Value.string s), (2, .pointer (some ⟨p2, 0, none⟩)), (4, .pointer (some ⟨p4, 0, none⟩)), (12, Value.int .i64 (x.2.2.1 : Nat)), (13, .pointer (some ⟨p13, 0, none⟩))]) (fun x => (p13, Obj.cells [Value.int .i64 (readC (dyR s)).1, Value.int .i64 (valR s 6).1, rowV x.2.1 (x.2.2.2.2.length + 1), rowV x.1 (x.2.2.2.2.length + 1)].toArray 26 (0, 0)) :: (rowO 3 x.1 ++ (rowO 3 x.2.1 ++ [(p4, Obj.cells #[Value.int .i64 0, Value.int .i64 0, Value.slice none 0 0, Value.slice none 0 0] 26), (p2, Obj.cells #[Value.int .i64 0, Value.int .i64 0, Value.slice none 0 0, Value.slice none 0 0] 26)]))) (fun x => [(w, fun _ => True)]) (fun x => s.size - x.2.2.1) ((some (p86, [Value.int .i64 (stR s).1], 1), some (p84, [Value.int .i64 0], 1), (stR s).2.1, s.size + 1, [])) (⟨hn0, by dsimp only; omega, Nat.zero_le _, rowOK_lit (n := 1) (cs := [Value.int .i64 (stR s).1]) rfl (by decide), rowOK_lit (n := 1) (cs := [Value.int .i64 0]) rfl (by decide), (by dsimp only; cases tailR s (s.size + 1) (stR s).2.1 <;> rfl), fun z hz => by cases hz⟩) (l_start Zu (fun _ h => h)) ?_
 rintro ⟨R, S, nx, f, l⟩ ⟨hnx, hf, hll, hR, hS, hT, hin⟩
 refine w_state ([(0, Value.string s), (2, .pointer (some ⟨p2, 0, none⟩)), (4, .pointer (some ⟨p4, 0, none⟩)), (12, Value.int .i64 (nx : Nat)), (13, .pointer (some ⟨p13, 0, none⟩))]) ((p13, Obj.cells [Value.int .i64 (readC (dyR s)).1, Value.int .i64 (valR s 6).1, rowV S (l.length + 1), rowV R (l.length + 1)].toArray 26 (0, 0)) :: (rowO 3 R ++ (rowO 3 S ++ [(p4, Obj.cells #[Value.int .i64 0, Value.int .i64 0, Value.slice none 0 0, Value.slice none 0 0] 26), (p2, Obj.cells #[Value.int .i64 0, Value.int .i64 0, Value.slice none 0 0, Value.slice none 0 0] 26)]))) ([(w, fun _ => True)]) ?_
 dsimp only at hnx hf hll hR hS hT hin
 refine Zs (Zs (Zr ?_))
 refine Xm ?_
 refine Xm ?_
 refine Xv rfl (v_len_str u9 rfl) ?_
 refine Xb rfl (v_lss rfl rfl) fun b91 hb91 => ?_
 refine Ze (Zt ?_)
 refine w_cond rfl (fun hc91 => ?_) (fun hc91 => ?_)
 ·simp only [hb91, Qz, ne_eq] at hc91
  have hlt : nx < s.size := by omega
  obtain ⟨f, rfl⟩ : ∃ g, f = g + 1 := ⟨f - 1, by omega⟩
  rw [tail_step hlt] at hT
  refine w_skip (Zt (w_block (Zs (Zr ?_))))
  refine Xm ?_
  refine Xm ?_
  refine x_callb rfl rfl rfl Tryz.func93 Zk rfl (fun w1 hw1 => c_has s sComma nx w1 hs (by omega) (by decide)) fun b94 hb94 => ?_
  have hva := val_at s (nx + 2)
  have hvb := val_at s ((valR s (nx + 2)).2.1 + 1)
  have hvc := val_rng s (nx + 2)
  have hvd := val_rng s ((valR s (nx + 2)).2.1 + 1)
  refine Xa ?_
  refine Ze (Zt (Zs (Zr ?_)))
  refine Xm ?_
  refine Xm ?_
  refine Xv rfl (v_addi (c := ((nx + 2 : Nat) : Int)) rfl rfl (by omega) (by omega)) ?_
  refine x_callv rfl rfl rfl Tryz.func78 Zk rfl (fun w1 hw1 => c_value s (nx + 2) w1 hs (by omega)) ?_
  refine Xm ?_
  refine Xv rfl (v_extract rfl rfl) ?_
  refine Xv rfl (v_extract rfl rfl) ?_
  refine Xb rfl (v_extract rfl rfl) fun b102 hb102 => ?_
  refine Xa ?_
  refine Xa ?_
  refine Xa ?_
  refine Ze (Zt (Zs (Zr ?_)))
  refine Xm ?_
  refine Xm ?_
  refine x_callb rfl rfl rfl Tryz.func93 Zk rfl (fun w1 hw1 => c_has s slash (valR s (nx + 2)).2.1 w1 hs (by omega) (by decide)) fun b105 hb105 => ?_
  refine Xa ?_
  refine Ze (Zt (Zs (Zr ?_)))
  refine Xm ?_
  refine Xm ?_
  refine Xv rfl (v_addi (c := (((valR s (nx + 2)).2.1 + 1 : Nat) : Int)) rfl rfl (by omega) (by omega)) ?_
  refine x_callv rfl rfl rfl Tryz.func78 Zk rfl (fun w1 hw1 => c_value s ((valR s (nx + 2)).2.1 + 1) w1 hs (by omega)) ?_
  refine Xm ?_
  refine Xv rfl (v_extract rfl rfl) ?_
  refine Xv rfl (v_extract rfl rfl) ?_
  refine Xb rfl (v_extract rfl rfl) fun b113 hb113 => ?_
  refine Xa ?_
  refine Xa ?_
  refine Xa ?_
  refine Ze (Zt (Zs (Zs (Zr ?_))))
  refine Xm ?_
  refine Xb rfl (v_not rfl) fun b115 hb115 => ?_
  refine Xm ?_
  refine Xg ?_
  refine Xj rfl rfl rfl (fun hg0 => by subst hg0; (try simp only [Qy]); exact v_not rfl) fun b118 hb118 => ?_
  refine Xb rfl (v_or rfl rfl) fun b119 hb119 => ?_
  refine Xm ?_
  refine Xg ?_
  refine Xj rfl rfl rfl (fun hg0 => by subst hg0; (try simp only [Qy]); exact v_not rfl) fun b122 hb122 => ?_
  refine Xb rfl (v_or rfl rfl) fun b123 hb123 => ?_
  refine Xm ?_
  refine Xg ?_
  refine Xj rfl rfl rfl (fun hg0 => by subst hg0; (try simp only [Qy]); exact v_not rfl) fun b126 hb126 => ?_
  refine Xb rfl (v_or rfl rfl) fun b127 hb127 => ?_
  refine Ze (Zt ?_)
  refine w_cond rfl (fun hc127 => ?_) (fun hc127 => ?_)
  ·have h9 : ¬(hasR s nx sComma && (valR s (nx + 2)).2.2 && hasR s (valR s (nx + 2)).2.1 slash && (valR s ((valR s (nx + 2)).2.1 + 1)).2.2) = true := fun h => by
    simp only [Bool.and_eq_true] at h
    obtain ⟨⟨⟨g1, g2⟩, g3⟩, g4⟩ := h
    rw [hb127, hb126, hb123, hb122, hb119, hb118, hb115, hb94, hb102, hb105, hb113, g1, g2, g3, g4] at hc127
    simp at hc127
   rw [if_neg h9] at hT
   refine Zs (Zr ?_)
   refine Xv rfl (v_load_blk (e := 26) (fz := (0, 0)) (cs := #[Value.int .i64 0, Value.int .i64 0, Value.slice none 0 0, Value.slice none 0 0]) u26 rfl rfl (by simp) (by exact sz26)) ?_
   refine x_store0 (cs := #[Value.int .i64 0, Value.int .i64 0, Value.slice none 0 0, Value.slice none 0 0]) (e := 26) (l2 := []) ((p13, Obj.cells [Value.int .i64 (readC (dyR s)).1, Value.int .i64 (valR s 6).1, rowV S (l.length + 1), rowV R (l.length + 1)].toArray 26 (0, 0)) :: (rowO 3 R ++ (rowO 3 S ++ [(p4, Obj.cells #[Value.int .i64 0, Value.int .i64 0, Value.slice none 0 0, Value.slice none 0 0] 26)]))) rfl rfl rfl (by simp [List.append_assoc]) sz26 rfl rfl ?_
   refine Xa ?_
   refine Ze (Zt (w_ret (t_ret (b_ret (t_ret (b_ret (t_ret ?_)))))))
   have hT : tailR s (s.size + 1) (stR s).2.1 = none := hT
   have hno : readPR readC s = (zeroPat, 11) := by unfold readPR; rw [if_pos hok, hT]
   refine retct rfl rfl rfl (List.mem_append_right _ (.head _)) u26 rfl sz26 (fun w' hm => ⟨.slice none 0 0, .slice none 0 0, by rw [hno]; rfl, hm.base (by simp), ?_⟩)
   rw [hno]
   exact ⟨by unfold in64; decide, by unfold in64; decide, ⟨none, 0, rfl, Nat.le_refl _, Nat.zero_le _, fun h => absurd h (by decide)⟩, ⟨none, 0, rfl, Nat.le_refl _, Nat.zero_le _, fun h => absurd h (by decide)⟩⟩
  have h9 : (hasR s nx sComma && (valR s (nx + 2)).2.2 && hasR s (valR s (nx + 2)).2.1 slash && (valR s ((valR s (nx + 2)).2.1 + 1)).2.2) = true := by
   rw [hb127, hb126, hb123, hb122, hb119, hb118, hb115, hb94, hb102, hb105, hb113] at hc127
   simp only [Bool.or_eq_false_iff, Bool.not_eq_false'] at hc127
   obtain ⟨⟨⟨g1, g2⟩, g3⟩, g4⟩ := hc127
   rw [g1, g2, g3, g4]; rfl
  rw [if_pos h9, opt_map_cons] at hT
  have hve : (valR s ((valR s (nx + 2)).2.1 + 1)).2.1 ≤ s.size := by simp only [Bool.and_eq_true] at h9; exact (val_ok h9.2).2.2.2.1
  obtain ⟨ya, hya⟩ : ∃ y, (valR s (nx + 2)).1 = y := ⟨_, rfl⟩
  obtain ⟨yb, hyb⟩ : ∃ y, (valR s ((valR s (nx + 2)).2.1 + 1)).1 = y := ⟨_, rfl⟩
  rw [hya] at hvc hT
  rw [hyb] at hvd hT
  refine w_skip (Zt (Zs (Zr ?_)))
  refine Xv rfl (v_fieldAddr (off' := 3) u26 rfl sz22 (by decide) rfl rfl) ?_
  refine Xv rfl (v_load u22 rfl rfl (at_ownL (vs := [Value.int .i64 (readC (dyR s)).1, Value.int .i64 (valR s 6).1, rowV S (l.length + 1), rowV R (l.length + 1)]) (.head _) rfl)) ?_
  refine Xv (v := Value.int .i64 ya) rfl (by rw [← hya]; exact v_move rfl) ?_
  refine x_buildSliceL (cs := [Value.int .i64 ya]) rfl rfl rfl u22 sz3 zr3 rfl rfl rfl ?_
  intro p132
  refine x_append (e := 3) [(p132, Obj.cells [Value.int .i64 ya].toArray 3), (p13, Obj.cells [Value.int .i64 (readC (dyR s)).1, Value.int .i64 (valR s 6).1, rowV S (l.length + 1), rowV R (l.length + 1)].toArray 26 (0, 0))] (l2 := rowO 3 S ++ [(p4, Obj.cells #[Value.int .i64 0, Value.int .i64 0, Value.slice none 0 0, Value.slice none 0 0] 26), (p2, Obj.cells #[Value.int .i64 0, Value.int .i64 0, Value.slice none 0 0, Value.slice none 0 0] 26)]) R (len := l.length + 1) (xs := ((stR s).1 :: l.map (·.1)).map (Value.int .i64)) rfl rfl rfl rfl (by simp [List.append_assoc]) hR u22 ap3 rfl rfl (m := 1) (news := [Value.int .i64 ya]) (fun i hi => at_ownL (vs := [Value.int .i64 ya]) (.head _) (by rw [Nat.zero_add]; exact List.getElem?_eq_getElem hi)) rfl Zx (by omega) fun R' hR' => ?_
  refine Xv rfl (v_fieldAddr (off' := 3) u26 rfl sz22 (by decide) rfl rfl) ?_
  refine x_store (cs := [Value.int .i64 (readC (dyR s)).1, Value.int .i64 (valR s 6).1, rowV S (l.length + 1), rowV R (l.length + 1)]) (off := 3) (e := 26) (l2 := (rowO 3 R' ++ (rowO 3 S ++ [(p4, Obj.cells #[Value.int .i64 0, Value.int .i64 0, Value.slice none 0 0, Value.slice none 0 0] 26), (p2, Obj.cells #[Value.int .i64 0, Value.int .i64 0, Value.slice none 0 0, Value.slice none 0 0] 26)]))) [(p132, Obj.cells [Value.int .i64 ya].toArray 3)] rfl rfl rfl (by simp [List.append_assoc]) sz22 rfl (by show 4 ≤ 4; decide) ?_
  refine Ze (Zt (Zs ?_))
  refine x_memW (own' := (p13, Obj.cells [Value.int .i64 (readC (dyR s)).1, Value.int .i64 (valR s 6).1, rowV S (l.length + 1), rowV R' (l.length + 1 + 1)].toArray 26 (0, 0)) :: (rowO 3 R' ++ (rowO 3 S ++ [(p4, Obj.cells #[Value.int .i64 0, Value.int .i64 0, Value.slice none 0 0, Value.slice none 0 0] 26), (p2, Obj.cells #[Value.int .i64 0, Value.int .i64 0, Value.slice none 0 0, Value.slice none 0 0] 26)]))) (ro' := [(w, fun _ => True)]) (fun _ h => h.less (List.sublist_cons_self _ _) (fun _ h => h)) ?_
  refine Zr ?_
  refine Xv rfl (v_fieldAddr (off' := 2) u26 rfl sz22 (by decide) rfl rfl) ?_
  refine Xv rfl (v_load u22 rfl rfl (at_ownL (vs := [Value.int .i64 (readC (dyR s)).1, Value.int .i64 (valR s 6).1, rowV S (l.length + 1), rowV R' (l.length + 1 + 1)]) (.head _) rfl)) ?_
  refine Xv (v := Value.int .i64 yb) rfl (by rw [← hyb]; exact v_move rfl) ?_
  refine x_buildSliceL (cs := [Value.int .i64 yb]) rfl rfl rfl u22 sz3 zr3 rfl rfl rfl ?_
  intro p138
  refine x_append (e := 3) ([(p138, Obj.cells [Value.int .i64 yb].toArray 3), (p13, Obj.cells [Value.int .i64 (readC (dyR s)).1, Value.int .i64 (valR s 6).1, rowV S (l.length + 1), rowV R' (l.length + 1 + 1)].toArray 26 (0, 0))] ++ rowO 3 R') (l2 := [(p4, Obj.cells #[Value.int .i64 0, Value.int .i64 0, Value.slice none 0 0, Value.slice none 0 0] 26), (p2, Obj.cells #[Value.int .i64 0, Value.int .i64 0, Value.slice none 0 0, Value.slice none 0 0] 26)]) S (len := l.length + 1) (xs := ((0 : Int) :: l.map (·.2)).map (Value.int .i64)) rfl rfl rfl rfl (by simp [List.append_assoc]) hS u22 ap3 rfl rfl (m := 1) (news := [Value.int .i64 yb]) (fun i hi => at_ownL (vs := [Value.int .i64 yb]) (.head _) (by rw [Nat.zero_add]; exact List.getElem?_eq_getElem hi)) rfl Zx (by omega) fun S' hS' => ?_
  refine Xv rfl (v_fieldAddr (off' := 2) u26 rfl sz22 (by decide) rfl rfl) ?_
  refine x_store (cs := [Value.int .i64 (readC (dyR s)).1, Value.int .i64 (valR s 6).1, rowV S (l.length + 1), rowV R' (l.length + 1 + 1)]) (off := 2) (e := 26) (l2 := (rowO 3 R' ++ (rowO 3 S' ++ [(p4, Obj.cells #[Value.int .i64 0, Value.int .i64 0, Value.slice none 0 0, Value.slice none 0 0] 26), (p2, Obj.cells #[Value.int .i64 0, Value.int .i64 0, Value.slice none 0 0, Value.slice none 0 0] 26)]))) [(p138, Obj.cells [Value.int .i64 yb].toArray 3)] rfl rfl rfl (by simp [List.append_assoc]) sz22 rfl (by show 3 ≤ 4; decide) ?_
  refine Ze (Zt (Zr ?_))
  refine Xm ?_
  refine Xa ?_
  refine Ze (b_norm ?_)
  exact l_norm (x := (R, S, nx, f + 1, l)) (μ := fun x : RowS × RowS × Nat × Nat × List (Int × Int) => s.size - x.2.2.1) (R', S', (valR s ((valR s (nx + 2)).2.1 + 1)).2.1, f, l ++ [(ya, yb)]) ⟨hve, by dsimp only; omega, by dsimp only; rw [List.length_append, List.length_singleton]; omega, by dsimp only; rw [List.length_append, List.length_singleton, List.map_append]; simpa using hR', by dsimp only; rw [List.length_append, List.length_singleton, List.map_append]; simpa using hS', hT, fun z hz => by rcases List.mem_append.1 hz with h | h; (· exact hin z h); rw [List.mem_singleton.1 h]; exact ⟨by unfold in64; dsimp only; omega, by unfold in64; dsimp only; omega⟩⟩ (by simp only; omega) Zu (fun w1 h => by rw [List.length_append, List.length_singleton]; exact h.less (List.sublist_cons_self _ _) (fun _ h => h))
 simp only [hb91, Qz, ne_eq] at hc91
 obtain ⟨f, rfl⟩ : ∃ g, f = g + 1 := ⟨f - 1, by omega⟩
 rw [tail_end (f := f) (nx := nx) (by omega)] at hT
 have hT : tailR s (s.size + 1) (stR s).2.1 = some l := by rw [hT]; show some (l ++ []) = _; rw [List.append_nil]
 obtain ⟨PP, hPP⟩ : ∃ q : Pat, q = patO (valR s 6).1 (readC (dyR s)).1 (stR s).1 l := ⟨_, rfl⟩
 have e1 : PP.lv = 0 :: l.map (·.2) := by rw [hPP]; rfl
 have e2 : PP.st = (stR s).1 :: l.map (·.1) := by rw [hPP]; rfl
 have e3 : PP.first = (readC (dyR s)).1 := by rw [hPP]; rfl
 have e4 : PP.days = (valR s 6).1 := by rw [hPP]; rfl
 have hvr := val_rng s 6
 have hvs : 0 ≤ (stR s).1 ∧ (stR s).1 < 10000000 := val_rng s _
 have hinS : ∀ d ∈ PP.st, in64 d := fun d hd => by rw [e2] at hd; rcases List.mem_cons.1 hd with rfl | hd; (· unfold in64; omega); obtain ⟨z, hz, rfl⟩ := List.mem_map.1 hd; exact (hin z hz).1
 have hinL : ∀ d ∈ PP.lv, in64 d := fun d hd => by rw [e1] at hd; rcases List.mem_cons.1 hd with rfl | hd; (· unfold in64; decide); obtain ⟨z, hz, rfl⟩ := List.mem_map.1 hd; exact (hin z hz).2
 have hl1 : l.length + 1 = PP.lv.length := by rw [e1]; simp
 have hl2 : l.length + 1 = PP.st.length := by rw [e2]; simp
 rw [← e1] at hS
 rw [← e2] at hR
 refine w_exit ?_
 refine t_exit ?_
 refine t_exit ?_
 refine b_hit ?_
 refine Zt (Zs (Zr ?_))
 refine Xv rfl (v_load_blk (e := 26) (fz := (0, 0)) (cs := ([Value.int .i64 (readC (dyR s)).1, Value.int .i64 (valR s 6).1, rowV S (l.length + 1), rowV R (l.length + 1)]).toArray) u26 rfl rfl (.head _) (by exact sz26)) ?_
 refine x_callb rfl rfl rfl Tryz.func35 Zk rfl (fun w1 hw1 => by
  have h := c_rRight PP w1 (⟨(by show in64 PP.first; rw [e3]; exact readC_in _), (by show in64 PP.days; rw [e4]; unfold in64; omega), rowI_rd (D := fun _ => True) (e := 3) hS hl1 hinL hw1 (fun q hq => by simp [hq]) (fun _ _ => trivial), rowI_rd (D := fun _ => True) (e := 3) hR hl2 hinS hw1 (fun q hq => by simp [hq]) (fun _ _ => trivial)⟩ : patRd (fun _ => True) w1 PP (rowV S (l.length + 1)) (rowV R (l.length + 1)))
  rw [e3, e4] at h; exact h) ?_
 intro b143 hb143
 refine Xa ?_
 refine Ze (Zt (Zs (Zs (Zr ?_))))
 refine Xm ?_
 refine Xb rfl (v_not rfl) fun b145 hb145 => ?_
 refine Ze (Zt ?_)
 refine w_cond rfl (fun hc145 => ?_) (fun hc145 => ?_)
 ·have hnq : ¬rightQ PP := fun h => by rw [hb145, hb143, decide_eq_true h] at hc145; simp at hc145
  refine Zs (Zr ?_)
  refine Xv rfl (v_load_blk (e := 26) (fz := (0, 0)) (cs := #[Value.int .i64 0, Value.int .i64 0, Value.slice none 0 0, Value.slice none 0 0]) u26 rfl rfl (by simp) (by exact sz26)) ?_
  refine x_store0 (cs := #[Value.int .i64 0, Value.int .i64 0, Value.slice none 0 0, Value.slice none 0 0]) (e := 26) (l2 := []) ((p13, Obj.cells [Value.int .i64 (readC (dyR s)).1, Value.int .i64 (valR s 6).1, rowV S (l.length + 1), rowV R (l.length + 1)].toArray 26 (0, 0)) :: (rowO 3 R ++ (rowO 3 S ++ [(p4, Obj.cells #[Value.int .i64 0, Value.int .i64 0, Value.slice none 0 0, Value.slice none 0 0] 26)]))) rfl rfl rfl (by simp [List.append_assoc]) sz26 rfl rfl ?_
  refine Xa ?_
  refine Ze (Zt (w_ret (t_ret ?_)))
  have hno : readPR readC s = (zeroPat, 11) := by unfold readPR; rw [if_pos hok, hT]; dsimp only; rw [if_neg (by rw [← hPP]; exact hnq)]
  refine retct rfl rfl rfl (List.mem_append_right _ (.head _)) u26 rfl sz26 (fun w' hm => ⟨.slice none 0 0, .slice none 0 0, by rw [hno]; rfl, hm.base (by simp), ?_⟩)
  rw [hno]
  exact ⟨by unfold in64; decide, by unfold in64; decide, ⟨none, 0, rfl, Nat.le_refl _, Nat.zero_le _, fun h => absurd h (by decide)⟩, ⟨none, 0, rfl, Nat.le_refl _, Nat.zero_le _, fun h => absurd h (by decide)⟩⟩
 have hq : rightQ PP := by rw [hb145, hb143] at hc145; simpa using hc145
 refine w_skip (Zt (Zs (Zr ?_)))
 refine Xv rfl (v_load_blk (e := 26) (fz := (0, 0)) (cs := ([Value.int .i64 (readC (dyR s)).1, Value.int .i64 (valR s 6).1, rowV S (l.length + 1), rowV R (l.length + 1)]).toArray) u26 rfl rfl (.head _) (by exact sz26)) ?_
 refine x_store0 (cs := #[Value.int .i64 0, Value.int .i64 0, Value.slice none 0 0, Value.slice none 0 0]) (e := 26) (l2 := []) ((p13, Obj.cells [Value.int .i64 (readC (dyR s)).1, Value.int .i64 (valR s 6).1, rowV S (l.length + 1), rowV R (l.length + 1)].toArray 26 (0, 0)) :: (rowO 3 R ++ (rowO 3 S ++ [(p4, Obj.cells #[Value.int .i64 0, Value.int .i64 0, Value.slice none 0 0, Value.slice none 0 0] 26)]))) rfl rfl rfl (by simp [List.append_assoc]) sz26 rfl rfl ?_
 refine Xa ?_
 refine Ze (Zt (w_ret ?_))
 have hyes : readPR readC s = (PP, 0) := by unfold readPR; rw [if_pos hok, hT]; dsimp only; rw [← hPP, if_pos hq]
 refine retct rfl rfl rfl (List.mem_append_right _ (.head _)) u26 rfl sz26 (fun w' hm => ⟨rowV S (l.length + 1), rowV R (l.length + 1), by rw [hyes]; dsimp only; rw [e3, e4]; rfl, hm.base (by simp), ?_⟩)
 rw [hyes]
 exact ⟨(by show in64 PP.first; rw [e3]; exact readC_in _), (by show in64 PP.days; rw [e4]; unfold in64; omega), rowI_rd (e := 3) hS hl1 hinL hm (fun q hq => by simp [hq]) (fun q hq => hm.newer (by simp) (by simp [hq])), rowI_rd (e := 3) hR hl2 hinS hm (fun q hq => by simp [hq]) (fun q hq => hm.newer (by simp) (by simp [hq]))⟩
open Go.RowKit Go.PK
theorem prog_read {p : Pat} (h : rightQ p) : readQ (writeQ p) = (p, 0) := by
 obtain ⟨h1, h2, h3, h4, h5⟩ := prog_hit h
 have e : rdP (writeQ p) = p := by
  unfold rdP
  rw [h2, h3, h4, h5, readC_back h.2.2.2]
 have hne : writeQ p ≠ ⟨#[]⟩ := fun h0 => by
  obtain ⟨s0, l, hp, _⟩ := right_pat h
  have hw := congrArg List.length (write_bl (hp ▸ h))
  rw [← hp, h0] at hw
  unfold headT at hw
  simp only [List.length_append, bl_len, show sEvery.size = 6 from rfl] at hw
  have h9 : (⟨#[]⟩ : ByteArray).size = 0 := rfl
  omega
 unfold readQ
 rw [if_pos ⟨h1, hne, by rw [e]⟩, e]
theorem read_same (s : ByteArray) : readQ s = readPR readC s := by
 rcases readPR_case readC readC_1 s with h | ⟨q, h, hq, hs⟩
 ·by_cases hc : rdOK s
  ·obtain ⟨h1, h2, h3⟩ := hc
   have hr : rightQ (rdP s) := Classical.byContradiction fun hn => by
    unfold writeQ at h3
    rw [if_neg hn] at h3
    exact h2 h3.symm
   have := readPR_hit readC (fun n hn => readC_back hn) hr
   rw [h3, h] at this
   injection this with _ h9
   exact absurd h9 (by decide)
  rw [h]; unfold readQ; rw [if_neg hc]
 rw [h, ← hs]; exact prog_read hq
theorem wr_sz {p : Pat} (h : rightQ p) : (writeQ p).size ≤ 2000 := by
 have h1 := h.1.1
 have h2 := h.1.2.1
 have h3 := h.1.2.2.1
 have key : ∀ j, j < p.lv.length → in64 (p.lv.getD j 0) ∧ in64 (p.st.getD j 0) := fun j hj => by
  by_cases h0 : j = 0
  ·subst h0
   have a := h.1.2.2.2
   unfold in64; omega
  have := h.at (j := j) (by omega) hj
  unfold in64; omega
 have hz := wrTo_sz p (fun d hd => by obtain ⟨j, hj, rfl⟩ := List.getElem_of_mem hd; rw [← getD_lt hj]; exact (key j (by omega)).2) (fun d hd => by obtain ⟨j, hj, rfl⟩ := List.getElem_of_mem hd; rw [← getD_lt hj]; exact (key j hj).1) (by have := h.2.2.1; unfold in64; omega) h3 h1 (p.lv.length - 1) (by omega)
 unfold writeQ
 rw [if_pos h]
 omega
open Go.RowKit Go.PK
theorem c_pattern {v : Value} {l : List Int} {D : Nat → Prop} (w : World) (hl : sliceRd tyI D w v l) :
  Calls Tryz.prog 9 #[v] w fun e w' => ∃ v1 v2, e = .returned (.agg #[.int .i64 (patL l).first, .int .i64 (patL l).days, v1, v2]) ∧ Later w w' ∧ patRd (fun b => w.heap.size ≤ b) w' (patL l) v1 v2 := by
 obtain ⟨A0, c0, rfl, hlc0, hmx0, -⟩ := id hl
 refine enter (vs := [.slice A0 l.length c0]) Tryz.func9 rfl Tryz.ntmps9 rfl ?_
 refine Zs (Zr ?_)
 refine x_alloc rfl rfl rfl zr26 ?_
 intro p2
 refine Ze (Zt ?_)
 refine w_seq_cut (σ := Value × List Int × World) (fun x => sliceRd tyI (notOwn [(p2, Obj.cells #[Value.int .i64 0, Value.int .i64 0, Value.slice none 0 0, Value.slice none 0 0] 26 (0, 0))]) x.2.2 x.1 x.2.1 ∧ 2 ≤ x.2.1.length ∧ patL x.2.1 = patL l) (fun x => [(0, x.1), (2, Value.pointer (some ⟨p2, 0, none⟩))]) (fun x => [(p2, Obj.cells #[Value.int .i64 0, Value.int .i64 0, Value.slice none 0 0, Value.slice none 0 0] 26 (0, 0))]) (fun x => [(x.2.2, (notOwn [(p2, Obj.cells #[Value.int .i64 0, Value.int .i64 0, Value.slice none 0 0, Value.slice none 0 0] 26 (0, 0))])), (w, fun _ => True)]) ?_ ?_
 ·refine w_seq ?_
  refine Zr ?_
  refine Xm ?_
  refine Xv rfl (v_len_slice u22 rfl) ?_
  refine Xb rfl (v_lss rfl rfl) fun b5 hb5 => ?_
  refine Ze (Zt ?_)
  refine w_cond rfl (fun hc5 => ?_) (fun hc5 => ?_)
  ·simp only [hb5, Qz, ne_eq] at hc5
   refine Zr ?_
   refine x_buildSliceL (cs := [Value.int .i64 5, Value.int .i64 30]) rfl rfl rfl u22 sz3 zr3 rfl rfl rfl ?_
   intro p6
   refine Xa ?_
   refine Ze ?_
   refine s_fix [(p2, Obj.cells #[Value.int .i64 0, Value.int .i64 0, Value.slice none 0 0, Value.slice none 0 0] 26 (0, 0))] (List.sublist_cons_self _ _) (fun w0 hm0 => ?_)
   exact c_norm (Value.slice (some ⟨p6, 0, none⟩) 2 2, [5, 30], w0) ⟨rowI_rd (D := (notOwn [(p2, Obj.cells #[Value.int .i64 0, Value.int .i64 0, Value.slice none 0 0, Value.slice none 0 0] 26 (0, 0))])) (e := 3) (r := some (p6, [5, 30].map (Value.int .i64), 2)) (rowOK_lit rfl (by simp [maxLen])) rfl (by intro d hd; simp at hd; unfold in64; omega) hm0 (fun q hq => by rw [show q = _ from List.mem_singleton.1 hq]; exact .head _) (fun q hq => hm0.notIn (l1 := [_]) (List.Sublist.refl _) hq), by simp, by unfold patL; rw [if_neg (show ¬([5, 30] : List Int).length < 2 by decide), if_pos (by omega)]; rfl⟩ Zu (fun w1 h => h.less (List.Sublist.refl _) (fun s hs => by simp at hs ⊢; rcases hs with rfl | rfl <;> simp))
  simp only [hb5, Qz, ne_eq] at hc5
  refine w_skip ?_
  refine s_fix [(p2, Obj.cells #[Value.int .i64 0, Value.int .i64 0, Value.slice none 0 0, Value.slice none 0 0] 26 (0, 0))] (List.Sublist.refl _) (fun w0 hm0 => ?_)
  exact c_norm (Value.slice A0 l.length c0, l, w0) ⟨hl.keep (fun k hk hlt => ⟨fun q hq he => by have h9 := hm0.newer (w0 := w) (by simp) hq; omega, (hm0.base (by simp)).block k hlt⟩), by dsimp only; omega, rfl⟩ Zu (fun w1 h => h.less (List.Sublist.refl _) (fun s hs => by simp at hs ⊢; rcases hs with rfl | rfl <;> simp))
 rintro ⟨v', l', w0⟩ ⟨hl', h2, hpe⟩
 refine w_state ([(0, v'), (2, Value.pointer (some ⟨p2, 0, none⟩))]) ([(p2, Obj.cells #[Value.int .i64 0, Value.int .i64 0, Value.slice none 0 0, Value.slice none 0 0] 26 (0, 0))]) ([(w0, (notOwn [(p2, Obj.cells #[Value.int .i64 0, Value.int .i64 0, Value.slice none 0 0, Value.slice none 0 0] 26 (0, 0))])), (w, fun _ => True)]) ?_
 dsimp only at hl' h2 hpe
 obtain ⟨A, c, rfl, hlc, hmx, -⟩ := id hl'
 obtain ⟨ba, oa, hAa, hDa, hca, hia⟩ := int_at hl' (k := 0) (by omega)
 obtain ⟨bb, ob, hAb, hDb, hcb, hib⟩ := int_at hl' (k := 1) (by omega)
 obtain ⟨p, hP⟩ : ∃ p, madeP l'[0] l'[1] (l'.drop 2) = p := ⟨_, rfl⟩
 have hpp : p = patL l := by rw [← hpe, ← hP]; unfold patL; rw [if_neg (by omega), getD_lt (by omega), getD_lt (by omega)]
 refine Zs ?_
 refine rg_draw 9 [(true, 0), (true, 1), (true, 2), (true, 3), (true, 4), (true, 5), (true, 6), (true, 7), (false, 8)] Zk Zk ?_
 refine Xm ?_
 refine Xv rfl (v_indexAddr (j := 0) u22 sz3 (congrArg (fun A => some (Value.slice A l'.length c)) hAa) rfl Zo rfl) ?_
 refine Xv rfl (v_load u3 rfl rfl (at_ro (.head _) hDa hca)) ?_
 refine Xm ?_
 refine Xv rfl (v_indexAddr (j := 1) u22 sz3 (congrArg (fun A => some (Value.slice A l'.length c)) hAb) rfl Zo rfl) ?_
 refine Xv rfl (v_load u3 rfl rfl (at_ro (.head _) hDb hcb)) ?_
 refine Xm ?_
 refine Xv rfl (v_scut_from (i := 2) u22 sz3 rfl rfl h2 hlc) ?_
 refine x_call (R := fun v wa wb => ∃ v1 v2, v = .agg #[.int .i64 p.first, .int .i64 p.days, v1, v2] ∧ patRd (fun b => wa.heap.size ≤ b) wb p v1 v2) rfl rfl rfl Tryz.func32 Zk rfl (fun w1 hw1 => by
  have h := c_Made l'[0] l'[1] w1 hia hib ((sliceRd.dropN 2 h2 hl').keep (Kept.snap (s := (w0, (notOwn [(p2, Obj.cells #[Value.int .i64 0, Value.int .i64 0, Value.slice none 0 0, Value.slice none 0 0] 26 (0, 0))]))) hw1 (by simp) (fun k h _ => h)))
  rw [hP] at h
  exact h.mono fun e w2 ⟨v1, v2, h1, h2, h3⟩ => ⟨_, h1, h2, v1, v2, rfl, h3⟩) ?_
 intro v15 wa15 wb15 hm15 hl15 hR15
 obtain ⟨v1, v2, rfl, hp1, hp2, hpa, hpb⟩ := hR15
 obtain ⟨A1, c1, rfl, -⟩ := id hpa
 obtain ⟨A2, c2, rfl, -⟩ := id hpb
 refine x_store0 [] rfl rfl rfl rfl sz26 rfl rfl ?_
 refine Ze (Zt (w_ret ?_))
 refine retc rfl rfl (.head _) u26 rfl sz26 (fun w' hm => ?_)
 subst hpp
 exact ⟨_, _, rfl, hm.base (by simp), patRd.keep (⟨hp1, hp2, hpa, hpb⟩ : patRd (fun b => wa15.heap.size ≤ b) wb15 (patL l) _ _) (fun k hk hlt => ⟨Nat.le_trans (hm15.base (by simp)).size hk, Kept.snap (D' := fun _ => True) hm (s := (wb15, (notOwn [(p2, Obj.cells #[Value.int .i64 0, Value.int .i64 0, Value.slice none 0 0, Value.slice none 0 0] 26 (0, 0))]))) (by simp) (fun _ _ _ => trivial) k (fun q hq he => by have := hm15.lt hq; omega) hlt |>.2⟩)⟩
theorem c_Text {D : Nat → Prop} {v1 v2 : Value} (p : Pat) (k : Int) (w : World) (hp : patRd D w p v1 v2) (hq : rightQ p) (h0 : 0 ≤ k) (hk : k ≤ 2000000) :
  Calls Tryz.prog 36 #[.agg #[.int .i64 p.first, .int .i64 p.days, v1, v2], .int .i64 k] w fun e w' => e = .returned (.string (txN (numsP p k))) ∧ Later w w' := by
 obtain ⟨hp1, hp2, h1, h2⟩ := id hp
 obtain ⟨A1, c1, rfl, hlc1, hmx1, hB1⟩ := id h1
 obtain ⟨A2, c2, rfl, hlc2, hmx2, hB2⟩ := id h2
 obtain ⟨bL, oL, hL0, hLk⟩ := rd_blk h1
 obtain ⟨bS, oS, hS0, hSk⟩ := rd_blk h2
 refine enter (vs := [.agg #[.int .i64 p.first, .int .i64 p.days, .slice A1 p.lv.length c1, .slice A2 p.st.length c2], .int .i64 k]) Tryz.func36 rfl Tryz.ntmps36 rfl ?_
 refine Zs (Zr ?_)
 refine x_box rfl rfl rfl rfl ?_
 intro p2
 refine Xa ?_
 refine Ze (Zt (Zs (Zr ?_)))
 refine Xv rfl (v_load_blk (e := 26) (fz := (0, 0)) (cs := #[Value.int .i64 p.first, Value.int .i64 p.days, Value.slice A1 p.lv.length c1, Value.slice A2 p.st.length c2]) u26 rfl rfl (.head _) (by exact sz26)) ?_
 refine Xm ?_
 refine x_call (R := fun v wa wb => sliceRd tyI (fun b => wa.heap.size ≤ b) wb v (numsP p k)) rfl rfl rfl Tryz.func52 Zk rfl (fun w1 hw1 => c_Numbers p k w1 (hp.keep (Kept.later (hw1.base (by simp)))) hq h0 hk) fun v10 wa10 wb10 hm10 hl10 hR10 => ?_
 obtain ⟨A10, c10, rfl, -⟩ := id hR10
 obtain ⟨n1, n2, n3⟩ := nums_tx hq h0 hk
 have n4 := nums_in64 hq h0 hk
 refine Xa ?_
 refine Ze (Zt (Zs (Zr ?_)))
 refine Xv (v := Value.string (txTo (numsP p k) 0)) rfl (v_assign rfl) ?_
 refine Ze (Zt (Zs (Zs (Zr ?_))))
 refine Xa ?_
 refine Ze (Zt (w_block ?_))
 refine w_loop (σ := Nat) (fun i => i ≤ (numsP p k).length) (fun i => [(5, Value.slice A10 (numsP p k).length c10), (6, Value.string (txTo (numsP p k) i)), (7, Value.int .i64 (i : Nat))]) (fun i => [(p2, Obj.cells #[Value.int .i64 p.first, Value.int .i64 p.days, Value.slice A1 p.lv.length c1, Value.slice A2 p.st.length c2] 26)]) (fun i => [(wb10, (notOwn [(p2, Obj.cells #[Value.int .i64 p.first, Value.int .i64 p.days, Value.slice A1 p.lv.length c1, Value.slice A2 p.st.length c2] 26)])), (w, fun _ => True)]) (fun i => (numsP p k).length - i) (0) (Nat.zero_le _) (l_start Zu (fun _ h => h)) ?_
 rintro i hi
 refine w_state ([(5, Value.slice A10 (numsP p k).length c10), (6, Value.string (txTo (numsP p k) i)), (7, Value.int .i64 (i : Nat))]) ([(p2, Obj.cells #[Value.int .i64 p.first, Value.int .i64 p.days, Value.slice A1 p.lv.length c1, Value.slice A2 p.st.length c2] 26)]) ([(wb10, (notOwn [(p2, Obj.cells #[Value.int .i64 p.first, Value.int .i64 p.days, Value.slice A1 p.lv.length c1, Value.slice A2 p.st.length c2] 26)])), (w, fun _ => True)]) ?_
 refine Zs (Zs (Zr ?_))
 refine Xm ?_
 refine Xm ?_
 refine Xv rfl (v_len_slice u22 rfl) ?_
 refine Xb rfl (v_lss rfl rfl) fun b14 hb14 => ?_
 refine Ze (Zt ?_)
 refine w_cond rfl (fun hc14 => ?_) (fun hc14 => ?_)
 ·simp only [hb14, Qz, ne_eq] at hc14
  have hil : i < (numsP p k).length := by omega
  obtain ⟨b0, o0, hA0, hD0, hc0, hin⟩ := int_at hR10 hil
  have hz := txTo_sz n4 i (by omega)
  have hd0 := n3 _ (List.getElem_mem hil)
  have hz2 := itoaS_size (n4 _ (List.getElem_mem hil))
  refine w_skip (Zt (Zs (w_block (Zs (Zs (Zr ?_))))))
  refine Xm ?_
  refine Xb rfl (v_gtr rfl rfl) fun b18 hb18 => ?_
  refine Ze (Zt ?_)
  refine w_cond rfl (fun hc18 => ?_) (fun hc18 => ?_)
  ·simp only [hb18, Qz, ne_eq] at hc18
   refine Zr ?_
   refine Xm ?_
   refine Xv rfl (v_sadd (u := slash) rfl rfl (by rw [show slash.size = 1 from rfl]; omega)) ?_
   refine Xa ?_
   refine Ze (Zt (Zr ?_))
   refine Xm ?_
   refine Xm ?_
   refine Xm ?_
   refine Xv rfl (v_indexAddr u22 sz3 (congrArg (fun A => some (Value.slice A (numsP p k).length c10)) hA0) rfl Zo rfl) ?_
   refine Xv rfl (v_load u3 rfl rfl (at_ro (.head _) (fun q hq he => by have := hm10.lt hq; omega) (by rw [Nat.mul_one]; exact hc0))) ?_
   refine x_callv rfl rfl rfl Tryz.func60 Zk rfl (fun w1 hw1 => c_Digits _ w1 hd0.1 hin) ?_
   refine Xv rfl (v_sadd rfl rfl (by first | omega | (rw [ByteArray.size_append, show slash.size = 1 from rfl]; omega))) ?_
   refine Xv (v := Value.string (txTo (numsP p k) (i + 1))) rfl (by rw [txTo, if_pos (by omega), getD_lt hil]; exact v_assign rfl) ?_
   refine Ze (b_norm (Zt (Zr ?_)))
   refine Xm ?_
   refine Xv rfl (v_addi rfl rfl rfl Zo) ?_
   refine Xa ?_
   refine Ze ?_
   exact l_norm (i + 1) (show i + 1 ≤ (numsP p k).length by omega) (by omega) Zu (fun _ h => h)
  simp only [hb18, Qz, ne_eq] at hc18
  refine w_skip (Zt (Zr ?_))
  refine Xm ?_
  refine Xm ?_
  refine Xm ?_
  refine Xv rfl (v_indexAddr u22 sz3 (congrArg (fun A => some (Value.slice A (numsP p k).length c10)) hA0) rfl Zo rfl) ?_
  refine Xv rfl (v_load u3 rfl rfl (at_ro (.head _) (fun q hq he => by have := hm10.lt hq; omega) (by rw [Nat.mul_one]; exact hc0))) ?_
  refine x_callv rfl rfl rfl Tryz.func60 Zk rfl (fun w1 hw1 => c_Digits _ w1 hd0.1 hin) ?_
  refine Xv rfl (v_sadd rfl rfl (by first | omega | (rw [ByteArray.size_append, show slash.size = 1 from rfl]; omega))) ?_
  refine Xv (v := Value.string (txTo (numsP p k) (i + 1))) rfl (by rw [txTo, if_neg (by omega), getD_lt hil]; exact v_assign rfl) ?_
  refine Ze (b_norm (Zt (Zr ?_)))
  refine Xm ?_
  refine Xv rfl (v_addi rfl rfl rfl Zo) ?_
  refine Xa ?_
  refine Ze ?_
  exact l_norm (i + 1) (show i + 1 ≤ (numsP p k).length by omega) (by omega) Zu (fun _ h => h)
 simp only [hb14, Qz, ne_eq] at hc14
 obtain rfl : i = (numsP p k).length := by omega
 refine w_exit ?_
 refine t_exit ?_
 refine t_exit ?_
 refine b_hit ?_
 refine Zt (Zs (Zr ?_))
 refine Xm ?_
 refine Xa ?_
 refine Ze (Zt (w_ret ?_))
 refine ret1 rfl rfl (fun w' hm => ⟨?_, hm.base (by simp)⟩)
 rfl
open Go.RowKit Go.PK
theorem ap5 : (Tryz.prog.info? 5).map (fun j => (j.zero, j.size, j.bytes)) = some (some (.int .u8 0), 1, 1) := by kernel_rfl
theorem lies66 : liesAt Tryz.prog Tryz.prog.depth 130 ((#[Value.nilIface, Value.nilIface] : Array Value).size / Tryz.prog.cellsOf 130) 0 130 1 = true := by kernel_rfl
theorem c_cc0 {l2 : List (Nat × Obj)} {ro : List Snap} {p : Nat} {r : RowS} {bs : List UInt8} (w : World) (hm : Mem w ((bld2 130 5 p (.pointer none) r (bs.length)) ++ l2) ro) :
  Calls Tryz.prog 110 #[.pointer (some ⟨p, 0, none⟩)] w fun e w' => e = .returned (.tuple #[]) ∧ Mem w' ((bld2 130 5 p (.pointer (some ⟨p, 0, none⟩)) r (bs.length)) ++ l2) ro := by
 refine enter_in hm (vs := [.pointer (some ⟨p, 0, none⟩)]) Tryz.func110 rfl Tryz.ntmps110 rfl ?_
 refine Zs (Zr ?_)
 refine Xm ?_
 refine Xv rfl (v_nilCheck rfl) ?_
 refine Xv rfl (v_fieldAddr (off' := 0) u130 rfl sz128 (by decide) rfl rfl) ?_
 refine Xv rfl (v_load u128 rfl rfl (at_ownL (vs := [(.pointer none), rowV r bs.length]) (.head _) rfl)) ?_
 refine Xb rfl (v_pnil u128 rfl rfl) fun b6 hb6 => ?_
 refine Ze (Zt ?_)
 refine w_cond rfl (fun hc6 => ?_) (fun hc6 => ?_)
 ·skip
  refine Zr ?_
  refine Xm ?_
  refine Xm ?_
  refine Xv rfl (v_toUns (e := 130) (cs := #[(.pointer none), rowV r bs.length]) (fz := (0, 0)) (m := 1) u128 u170 sz130 rfl (.head _) (show 0 < 2 by decide)) ?_
  refine Xv rfl (v_noEsc Tryz.func133 Zk Zk Zk Zk rfl) ?_
  refine Xv rfl (v_fromUns (e := 130) (cs := #[(.pointer none), rowV r bs.length]) (fz := (0, 0)) u170 u128 ⟨_, (Option.map_eq_some_iff.1 sz130).choose_spec.1⟩ rfl (.head _) lies66) ?_
  refine Xv rfl (v_nilCheck rfl) ?_
  refine Xv rfl (v_fieldAddr (off' := 0) u130 rfl sz128 (by decide) rfl rfl) ?_
  refine x_store [] rfl rfl rfl rfl sz128 rfl (by show 1 ≤ 2; decide) ?_
  refine Ze ?_
  exact ret0 rfl (fun w' hm' => ⟨rfl, hm'⟩)
 rw [hb6] at hc6; cases hc6
theorem c_cc1 {l2 : List (Nat × Obj)} {ro : List Snap} {p : Nat} {r : RowS} {bs : List UInt8} (w : World) (hm : Mem w ((bld2 130 5 p (.pointer (some ⟨p, 0, none⟩)) r (bs.length)) ++ l2) ro) :
  Calls Tryz.prog 110 #[.pointer (some ⟨p, 0, none⟩)] w fun e w' => e = .returned (.tuple #[]) ∧ Mem w' ((bld2 130 5 p (.pointer (some ⟨p, 0, none⟩)) r (bs.length)) ++ l2) ro := by
 refine enter_in hm (vs := [.pointer (some ⟨p, 0, none⟩)]) Tryz.func110 rfl Tryz.ntmps110 rfl ?_
 refine Zs (Zr ?_)
 refine Xm ?_
 refine Xv rfl (v_nilCheck rfl) ?_
 refine Xv rfl (v_fieldAddr (off' := 0) u130 rfl sz128 (by decide) rfl rfl) ?_
 refine Xv rfl (v_load u128 rfl rfl (at_ownL (vs := [(.pointer (some ⟨p, 0, none⟩)), rowV r bs.length]) (.head _) rfl)) ?_
 refine Xb rfl (v_pnil u128 rfl rfl) fun b6 hb6 => ?_
 refine Ze (Zt ?_)
 refine w_cond rfl (fun hc6 => ?_) (fun hc6 => ?_)
 ·rw [hb6] at hc6; cases hc6
 skip
 refine Zs (Zr ?_)
 refine Xm ?_
 refine Xv rfl (v_nilCheck rfl) ?_
 refine Xv rfl (v_fieldAddr (off' := 0) u130 rfl sz128 (by decide) rfl rfl) ?_
 refine Xv rfl (v_load u128 rfl rfl (at_ownL (vs := [(.pointer (some ⟨p, 0, none⟩)), rowV r bs.length]) (.head _) rfl)) ?_
 refine Xm ?_
 refine Xb rfl (v_pne u128 (Option.map_eq_some_iff.1 sz130).choose_spec.1 rfl rfl) fun b19 hb19 => ?_
 refine Ze (Zt ?_)
 refine w_cond rfl (fun hc19 => ?_) (fun hc19 => ?_)
 ·rw [hb19] at hc19; cases hc19
 skip
 refine w_skip ?_
 exact ret0 rfl (fun w' hm' => ⟨rfl, hm'⟩)
theorem c_cc {l2 : List (Nat × Obj)} {ro : List Snap} {p : Nat} {pp : Value} {r : RowS} {bs : List UInt8} (w : World) (hm : Mem w ((bld2 130 5 p pp r (bs.length)) ++ l2) ro) (hp : ppOK p pp) :
  Calls Tryz.prog 110 #[.pointer (some ⟨p, 0, none⟩)] w fun e w' => e = .returned (.tuple #[]) ∧ Mem w' ((bld2 130 5 p (.pointer (some ⟨p, 0, none⟩)) r (bs.length)) ++ l2) ro := by
 rcases hp with rfl | rfl
 ·exact c_cc0 w hm
 exact c_cc1 w hm
theorem c_BS {l2 : List (Nat × Obj)} {ro : List Snap} {p : Nat} {pp : Value} {r : RowS} {bs : List UInt8} (w : World) (hm : Mem w ((bld2 130 5 p pp r (bs.length)) ++ l2) ro) (hp : ppOK p pp) (hr : rowOK 1 r bs.length (byC bs)) {B : Nat} (hB : ∀ s ∈ ro, s.1.heap.size ≤ B) (h2 : ∀ q ∈ l2, q.1 < B) (hb : ∀ q ∈ (bld2 130 5 p pp r (bs.length)), B ≤ q.1) (hBw : B ≤ w.heap.size) :
  Calls Tryz.prog 83 #[.pointer (some ⟨p, 0, none⟩)] w fun e w' => e = .returned (.string ⟨bs.toArray⟩) ∧ Mem w' l2 ro :=
 (Tryz.Builder_String_any_k B p bs w (bld2_is hm hp hr rfl hb) hBw).mono fun e w' ⟨h1, _, h3, _⟩ => ⟨h1, hm.after hB h2 h3⟩
theorem c_WS {l2 : List (Nat × Obj)} {ro : List Snap} {p : Nat} {pp : Value} {r : RowS} {bs : List UInt8} (w : World) (hm : Mem w ((bld2 130 5 p pp r (bs.length)) ++ l2) ro) (hp : ppOK p pp) (t : ByteArray) (hr : rowOK 1 r bs.length (byC bs)) (hl : bs.length ≤ 4000000000000) (ht : t.size ≤ 4000000000000) :
  Calls Tryz.prog 81 #[.pointer (some ⟨p, 0, none⟩), .string t] w fun e w' => e = .returned (.tuple #[.int .i64 (t.size : Nat), .nilIface]) ∧ ∃ r', rowOK 1 r' (bs ++ bl t).length (byC (bs ++ bl t)) ∧ Mem w' ((bld2 130 5 p (.pointer (some ⟨p, 0, none⟩)) r' ((bs ++ bl t).length)) ++ l2) ro := by
 refine enter_in hm (vs := [.pointer (some ⟨p, 0, none⟩), .string t]) Tryz.func81 rfl Tryz.ntmps81 rfl ?_
 refine Zs (Zr ?_)
 refine Xa ?_
 refine Xa ?_
 refine Ze (Zt (Zs (Zr ?_)))
 refine Xm ?_
 refine x_turnf (τ := Unit) (v := .tuple #[]) (fun _ => True) (fun _ => (bld2 130 5 p (.pointer (some ⟨p, 0, none⟩)) r (bs.length)) ++ l2) rfl rfl Tryz.func110 Zk rfl (fun w1 hw1 => by have hc := c_cc w1 hw1 hp; exact hc.mono fun e w2 h => ⟨h.1, (), trivial, h.2⟩) fun _ _ => ?_
 refine Ze (Zt (Zs (Zr ?_)))
 refine Xm ?_
 refine Xm ?_
 refine Xv rfl (v_nilCheck rfl) ?_
 refine Xv rfl (v_fieldAddr (off' := 1) u130 rfl sz45 (by decide) rfl rfl) ?_
 refine Xv rfl (v_load u45 rfl rfl (at_ownL (vs := [(.pointer (some ⟨p, 0, none⟩)), rowV r bs.length]) (.head _) rfl)) ?_
 refine Xm ?_
 refine x_append_str (e := 5) [(p, _)] (l2 := l2) r (len := bs.length) (xs := byC bs) rfl rfl rfl rfl rfl hr u45 u9 ap5 Zx (by omega) fun r' hr' => ?_
 refine Xv rfl (v_nilCheck rfl) ?_
 refine Xv rfl (v_fieldAddr (off' := 1) u130 rfl sz45 (by decide) rfl rfl) ?_
 refine x_store [] rfl rfl rfl rfl sz45 rfl (by show 2 ≤ 2; decide) ?_
 refine Ze (Zt (Zs (Zr ?_)))
 refine Xm ?_
 refine Xv rfl (v_len_str u9 rfl) ?_
 refine Xa ?_
 refine Xa ?_
 refine Ze (Zt (w_ret ?_))
 refine ret2 rfl rfl rfl (fun w' hm' => ⟨rfl, r', ?_, ?_⟩)
 ·rw [byC_app, List.length_append, bl_len]; exact hr'
 rw [List.length_append, bl_len]; exact hm'
theorem c_groups (n : Nat) (w : World) :
  Calls Tryz.prog 111 #[.int .u64 (n : Nat)] w fun e w' => ∃ Bs, e = .returned (.func (.func 134) #[] #[.pointer (some ⟨Bs, 0, none⟩)]) ∧ Later w w' ∧ Mem w' [(Bs, Obj.cells [Value.int .u64 ((n : Nat) : Int)].toArray 107 (0, 0))] [(w, fun _ => True)] := by
 refine enter (vs := [.int .u64 (n : Nat)]) Tryz.func111 rfl Tryz.ntmps111 rfl ?_
 refine Zs (Zr ?_)
 refine x_box rfl rfl rfl rfl ?_
 intro p1
 refine Xa ?_
 refine Ze (Zt (Zs (Zr ?_)))
 refine Xv rfl (v_func rfl) ?_
 refine Xa ?_
 refine Ze (Zt (w_ret ?_))
 exact ret1 rfl rfl (fun w' hm => ⟨p1, rfl, hm.base (by simp), hm⟩)
theorem retn {P : Program} {n : Nat} {l : List (Nat × Value)} {own : List (Nat × Obj)} {ro : List Snap} {R : Ending → World → Prop} {fn : Func} (hr : fn.results = #[]) (h : ∀ w', Mem w' own ro → R (.returned (.tuple #[])) w') : S (bodyPost P fn R .ret) n l own ro := ret0 hr h
set_option maxHeartbeats 1000000 in
theorem c_groups1 {w : World} {ro : List Snap} {L Bs : Nat} (X : RowS → Nat → List (Nat × Obj)) (n : Nat) (hn : n < 18446744073709551616) (hm : Mem w ((Bs, Obj.cells [Value.int .u64 ((n : Nat) : Int)].toArray 107 (0, 0)) :: X none 0) ro) (hY : ∀ (bs : List UInt8) (v : Nat) (r : RowS) (w1 : World), rowOK 1 r bs.length (byC bs) → bs.length ≤ 9 → v < 18446744073709551616 → Mem w1 ((Bs, Obj.cells [Value.int .u64 ((v / 128 : Nat) : Int)].toArray 107 (0, 0)) :: X r bs.length) ro → YieldAt Fence.wide (2 - 1) Tryz.prog L [Value.int .u8 (((UInt8.ofNat (v % 128)).toNat : Nat) : Int), Value.bool (decide (((v / 128 : Nat) : Int) > 0))].toArray w1 fun e w2 => e = .returned (.bool true) ∧ ∃ r', rowOK 1 r' (bs ++ [(if v / 128 > 0 then UInt8.ofNat (v % 128 + 128) else UInt8.ofNat (v % 128))]).length (byC (bs ++ [(if v / 128 > 0 then UInt8.ofNat (v % 128 + 128) else UInt8.ofNat (v % 128))])) ∧ Mem w2 ((Bs, Obj.cells [Value.int .u64 ((v / 128 : Nat) : Int)].toArray 107 (0, 0)) :: X r' (bs ++ [(if v / 128 > 0 then UInt8.ofNat (v % 128 + 128) else UInt8.ofNat (v % 128))]).length) ro) :
  Calls Tryz.prog 134 #[.func (.yield L) #[] #[], .pointer (some ⟨Bs, 0, none⟩)] w fun e w' => (∃ v, e = .returned v) ∧ ∃ r' v', rowOK 1 r' (numG n).length (byC (numG n)) ∧ Mem w' ((Bs, Obj.cells [Value.int .u64 ((v' : Nat) : Int)].toArray 107 (0, 0)) :: X r' (numG n).length) ro := by
 refine enter_in hm (vs := [.func (.yield L) #[] #[], .pointer (some ⟨Bs, 0, none⟩)]) Tryz.func134 rfl Tryz.ntmps134 rfl ?_
 refine w_block ?_
 refine w_loop (σ := List UInt8 × Nat × RowS) (fun x => x.1 ++ numG x.2.1 = numG n ∧ rowOK 1 x.2.2 x.1.length (byC x.1) ∧ x.2.1 < 18446744073709551616) (fun x => [(0, Value.func (.yield L) #[] #[]), (1, Value.pointer (some ⟨Bs, 0, none⟩))]) (fun x => (Bs, Obj.cells [Value.int .u64 ((x.2.1 : Nat) : Int)].toArray 107 (0, 0)) :: X x.2.2 x.1.length) (fun x => ro) (fun x => x.2.1) (([], n, none)) (⟨rfl, rowOK_nil, hn⟩) (l_start Zu (fun _ h => h)) ?_
 rintro ⟨bs, v, r⟩ ⟨hbs, hr, hv⟩
 refine w_state ([(0, Value.func (.yield L) #[] #[]), (1, Value.pointer (some ⟨Bs, 0, none⟩))]) ((Bs, Obj.cells [Value.int .u64 ((v : Nat) : Int)].toArray 107 (0, 0)) :: X r bs.length) (ro) ?_
 dsimp only at hbs hr hv
 have hln : bs.length ≤ 9 := by have h1 := congrArg List.length hbs; rw [List.length_append] at h1; have h2 := numG_ten hn; have h3 := numG_pos v; omega
 refine w_block (Zs (Zr ?_))
 refine Xv rfl (v_load u107 rfl rfl (at_ownL (vs := [Value.int .u64 ((v : Nat) : Int)]) (.head _) rfl)) ?_
 refine Xv (v := Value.int .u64 ((v % 128 : Nat) : Int)) rfl (v_remN (b := 128) rfl rfl (by decide)) ?_
 refine Xv rfl (v_convU8 u107 u5 rfl (by omega)) ?_
 refine Xa ?_
 refine Ze (Zt (Zs (Zr ?_)))
 refine Xv rfl (v_load u107 rfl rfl (at_ownL (vs := [Value.int .u64 ((v : Nat) : Int)]) (.head _) rfl)) ?_
 refine Xv (v := Value.int .u64 ((v / 128 : Nat) : Int)) rfl (v_shr rfl rfl (by decide) (by show (v : Int) / 128 = _; omega)) ?_
 refine x_store (cs := [Value.int .u64 ((v : Nat) : Int)]) (off := 0) (e := 107) (l2 := X r bs.length) [] rfl rfl rfl rfl sz107 rfl (by show 1 ≤ 1; decide) ?_
 refine Ze (Zt (Zs ?_))
 refine rg_yield 4 2 Zk rfl ?_
 refine Xm ?_
 refine Xm ?_
 refine Xv rfl (v_load u107 rfl rfl (at_ownL (vs := [Value.int .u64 ((v / 128 : Nat) : Int)]) (.head _) rfl)) ?_
 refine Xb rfl (v_gtr rfl rfl) fun b12 hb12 => ?_
 refine Ze ?_
 subst hb12
 refine s_yield (fun r' : RowS => rowOK 1 r' (bs ++ [(if v / 128 > 0 then UInt8.ofNat (v % 128 + 128) else UInt8.ofNat (v % 128))]).length (byC (bs ++ [(if v / 128 > 0 then UInt8.ofNat (v % 128 + 128) else UInt8.ofNat (v % 128))]))) (fun r' => (Bs, Obj.cells [Value.int .u64 ((v / 128 : Nat) : Int)].toArray 107 (0, 0)) :: X r' (bs ++ [(if v / 128 > 0 then UInt8.ofNat (v % 128 + 128) else UInt8.ofNat (v % 128))]).length) rfl rfl rfl rfl rfl (fun w1 hw1 => (hY bs v r w1 hr hln hv hw1).mono fun e w2 h => h) fun r' hr' => ?_
 refine s_rest Zk rfl ?_
 refine Xv (v := Value.bool false) rfl (v_not (b := true) rfl) ?_
 refine Xm ?_
 refine x_valg rfl rfl rfl rfl rfl (v_load u107 rfl rfl (at_ownL (vs := [Value.int .u64 ((v / 128 : Nat) : Int)]) (.head _) rfl)) ?_
 refine x_boolg rfl rfl rfl rfl rfl (v_eql rfl rfl) fun b17 hb17 => ?_
 refine Xb rfl (v_or (g := false) rfl rfl) fun b18 hb18 => ?_
 refine Ze (Zt ?_)
 refine w_cond rfl (fun hc18 => ?_) (fun hc18 => ?_)
 ·have hv0 : v / 128 = 0 := by rw [hb18, hb17] at hc18; simp at hc18; omega
  refine w_ret (b_ret (t_ret (b_ret ?_)))
  have hv1 : v < 128 := by omega
  rw [numG_small hv1] at hbs
  have e9 : (if v / 128 > 0 then UInt8.ofNat (v % 128 + 128) else UInt8.ofNat (v % 128)) = UInt8.ofNat v := by rw [if_neg (by omega), Nat.mod_eq_of_lt hv1]
  rw [e9, hbs] at hr'
  refine retn rfl (fun w' hm => ⟨⟨_, rfl⟩, r', v / 128, hr', ?_⟩)
  rw [e9, hbs] at hm
  exact hm
 have hv0 : ¬v / 128 = 0 := by rw [hb18, hb17] at hc18; simp at hc18; omega
 refine w_skip (b_norm ?_)
 have hv1 : ¬v < 128 := by omega
 rw [numG_big hv1] at hbs
 have e9 : (if v / 128 > 0 then UInt8.ofNat (v % 128 + 128) else UInt8.ofNat (v % 128)) = UInt8.ofNat (v % 128 + 128) := if_pos (by omega)
 exact l_norm (x := (bs, v, r)) (μ := fun q : List UInt8 × Nat × RowS => q.2.1) (bs ++ [UInt8.ofNat (v % 128 + 128)], v / 128, r') ⟨by dsimp only; rw [← hbs, List.append_assoc]; rfl, by rw [← e9]; exact hr', by dsimp only; omega⟩ (by simp only; omega) Zu (fun _ h => by rw [e9] at h; exact h)
open Go.RowKit Go.PK
set_option maxHeartbeats 1000000 in
theorem c_Num (n : Nat) (w : World) (hn : n < 18446744073709551616) :
  Calls Tryz.prog 82 #[.int .u64 (n : Nat)] w fun e w' => e = .returned (.string ⟨(numG n).toArray⟩) ∧ Later w w' := by
 have hT := numG_ten hn
 refine enterM (vs := [.int .u64 (n : Nat)]) 2 Tryz.func82 rfl Tryz.ntmps82 rfl ?_
 refine Zs (Zr ?_)
 refine Xa ?_
 refine Ze (Zt (Zs (Zr ?_)))
 refine x_alloc rfl rfl rfl zr45 ?_
 intro p3
 refine Ze (Zt (Zs (Zs (Zr ?_))))
 refine Xm ?_
 refine x_own (τ := Nat) (fun Bs => .func (.func 134) #[] #[.pointer (some ⟨Bs, 0, none⟩)]) (fun _ => True) (fun Bs => (Bs, Obj.cells [Value.int .u64 ((n : Nat) : Int)].toArray 107 (0, 0)) :: [(p3, Obj.cells [rowV none 0].toArray 45 (0, 0))]) rfl rfl rfl Tryz.func111 Zk rfl (fun w1 hw1 => (c_groups n w1).mono fun e w2 ⟨Bs, h1, h2, h3⟩ => ⟨Bs, h1, h2, trivial, (hw1.join2 h3).to (by simp; rfl)⟩) fun Bs _ => ?_
 refine Ze (Zt (w_block ?_))
 refine w_range (fun x : RowS × Nat => rowOK 1 x.1 (numG n).length (byC (numG n))) (fun x => (Bs, Obj.cells [Value.int .u64 ((x.2 : Nat) : Int)].toArray 107 (0, 0)) :: (p3, Obj.cells [rowV x.1 (numG n).length].toArray 45 (0, 0)) :: rowO 5 x.1) rfl (enters_of Tryz.func134 Zk rfl) ?_ ?_
 ·intro L D fn tmps w1 hfh hm1
  refine (c_groups1 (Bs := Bs) (L := L) (fun r k => (L, .loop (recL .ready fn tmps #[8, 9] _ _ D)) :: (D, .deferred (some [])) :: (p3, Obj.cells [rowV r k].toArray 45 (0, 0)) :: rowO 5 r) n hn (hm1.perm (((List.Perm.swap _ _ _).cons _).trans (List.Perm.swap _ _ _))) ?_).mono ?_
  ·intro bs v r w2 hr hln hv hm2
   refine yield_two (m := 1) (hm2.perm (List.Perm.swap _ _ _)) hfh rfl rfl ?_
   refine wi_seq ?_
   refine ri_text (lets_round _) Zk ?_
   refine Xa ?_
   refine Ze ?_
   refine ti_norm ?_
   refine ri_text (lets_round _) Zk ?_
   refine Xa ?_
   refine Ze ?_
   refine t_k ?_
   refine s_begin rfl ?_
   refine wi_block ?_
   refine wi_seq ?_
   refine wi_seq ?_
   refine ri_text (lets_round _) Zk ?_
   refine Xm ?_
   refine Ze ?_
   refine ti_norm ?_
   refine wi_cond rfl (fun hc => ?_) (fun hc => ?_)
   ·have hv0 := of_decide_eq_true hc
    refine ri_text (lets_round _) Zk ?_
    refine Xm ?_
    refine Xv (v := Value.int .u8 (((UInt8.ofNat (v % 128 + 128)).toNat : Nat) : Int)) rfl (by rw [← or128 (Nat.mod_lt v (by decide))]; exact v_orK rfl rfl) ?_
    refine Xa ?_
    refine Ze ?_
    refine ti_norm ?_
    refine ri_text (lets_round _) Zk ?_
    refine Xv rfl (v_load u45 rfl rfl (at_ownL (vs := [rowV r bs.length]) Zh rfl)) ?_
    refine Xm ?_
    refine x_buildSliceL (cs := byC [UInt8.ofNat (v % 128 + 128)]) rfl rfl rfl u45 sz5 zr5 rfl rfl rfl ?_
    intro p15
    refine x_append (e := 5) [(p15, _), (L, _), (Bs, _), (D, _), (p3, _)] (l2 := []) r (len := bs.length) (xs := byC bs) rfl rfl rfl rfl (by simp only [List.append_nil]; rfl) hr u45 ap5 rfl rfl (m := 1) (news := byC [UInt8.ofNat (v % 128 + 128)]) (fun i hi => at_ownL (vs := byC [UInt8.ofNat (v % 128 + 128)]) (.head _) (by rw [Nat.zero_add]; exact List.getElem?_eq_getElem hi)) rfl Zx (by omega) fun r' hr' => ?_
    rw [List.append_nil]
    refine x_store (cs := [rowV r bs.length]) (off := 0) (e := 45) (l2 := rowO 5 r') [(p15, _), (L, _), (Bs, _), (D, _)] rfl rfl rfl rfl sz45 rfl (by show 1 ≤ 1; decide) ?_
    refine x_mem (fun _ h => h.less (List.sublist_cons_self _ _) (fun _ h => h)) ?_
    refine Ze (b_norm ?_)
    refine s_round (fun w' hm => ⟨rfl, r', ?_, ?_⟩)
    ·rw [(if_pos (show v / 128 > 0 by omega) : (if v / 128 > 0 then UInt8.ofNat (v % 128 + 128) else UInt8.ofNat (v % 128)) = _), byC_app, List.length_append]; exact hr'
    rw [(if_pos (show v / 128 > 0 by omega) : (if v / 128 > 0 then UInt8.ofNat (v % 128 + 128) else UInt8.ofNat (v % 128)) = _), List.length_append]; exact hm.perm (List.Perm.swap _ _ _)
   have hv0 := of_decide_eq_false hc
   refine wi_skip ?_
   refine ti_norm ?_
   refine ri_text (lets_round _) Zk ?_
   refine Xv rfl (v_load u45 rfl rfl (at_ownL (vs := [rowV r bs.length]) Zh rfl)) ?_
   refine Xm ?_
   refine x_buildSliceL (cs := byC [UInt8.ofNat (v % 128)]) rfl rfl rfl u45 sz5 zr5 rfl rfl rfl ?_
   intro p15
   refine x_append (e := 5) [(p15, _), (L, _), (Bs, _), (D, _), (p3, _)] (l2 := []) r (len := bs.length) (xs := byC bs) rfl rfl rfl rfl (by simp only [List.append_nil]; rfl) hr u45 ap5 rfl rfl (m := 1) (news := byC [UInt8.ofNat (v % 128)]) (fun i hi => at_ownL (vs := byC [UInt8.ofNat (v % 128)]) (.head _) (by rw [Nat.zero_add]; exact List.getElem?_eq_getElem hi)) rfl Zx (by omega) fun r' hr' => ?_
   rw [List.append_nil]
   refine x_store (cs := [rowV r bs.length]) (off := 0) (e := 45) (l2 := rowO 5 r') [(p15, _), (L, _), (Bs, _), (D, _)] rfl rfl rfl rfl sz45 rfl (by show 1 ≤ 1; decide) ?_
   refine x_mem (fun _ h => h.less (List.sublist_cons_self _ _) (fun _ h => h)) ?_
   refine Ze (b_norm ?_)
   refine s_round (fun w' hm => ⟨rfl, r', ?_, ?_⟩)
   ·rw [(if_neg (show ¬v / 128 > 0 by omega) : (if v / 128 > 0 then UInt8.ofNat (v % 128 + 128) else UInt8.ofNat (v % 128)) = _), byC_app, List.length_append]; exact hr'
   rw [(if_neg (show ¬v / 128 > 0 by omega) : (if v / 128 > 0 then UInt8.ofNat (v % 128 + 128) else UInt8.ofNat (v % 128)) = _), List.length_append]; exact hm.perm (List.Perm.swap _ _ _)
  rintro e w2 ⟨h1, r', v', h2, h3⟩
  exact ⟨h1, (r', v'), h2, h3.perm ((List.Perm.swap _ _ _).trans ((List.Perm.swap _ _ _).cons _))⟩
 rintro D ⟨r, v'⟩ hr
 dsimp only at hr ⊢
 refine sd_block ?_
 refine sd_then ?_
 refine sd_seq ?_
 refine sd_region ?_
 refine sdl_val rfl (v_load u45 rfl rfl (at_ownL (vs := [rowV r (numG n).length]) Zh rfl)) ?_
 refine sdl_val rfl (v_toStrR (E := 5) (numG n) u45 u5 u9 rfl hr rfl (fun q hq => .tail _ (.tail _ (.tail _ hq)))) ?_
 refine sdl_val rfl (v_assign rfl) ?_
 refine sdl_end ?_
 refine sd_then ?_
 refine sd_ret ?_
 exact ret1M rfl rfl (fun w' hm => ⟨rfl, hm.base (by simp)⟩)
open Go.RowKit Go.PK
theorem c_Sgn (n : Int) (w : World) (h : in64 n) :
  Calls Tryz.prog 84 #[.int .i64 n] w fun e w' => e = .returned (.int .u64 (sgn n : Nat)) ∧ Later w w' := by
 refine enter (vs := [.int .i64 n]) Tryz.func84 rfl Tryz.ntmps84 rfl ?_
 refine Zs (Zr ?_)
 refine Xa ?_
 refine Ze (Zt (Zs (Zr ?_)))
 refine Xm ?_
 refine Xv rfl (v_conv u3 u107 rfl) ?_
 refine Xv (v := Value.int .u64 (IntKind.u64.wrap (IntKind.u64.wrap n * 2))) rfl (v_shl rfl rfl (by decide) rfl) ?_
 refine Xm ?_
 refine Xv (v := Value.int .i64 (n / 9223372036854775808)) rfl (v_shr rfl rfl (by decide) rfl) ?_
 refine Xv rfl (v_conv u3 u107 rfl) ?_
 refine Xv (v := Value.int .u64 (sgn n : Nat)) rfl (by rw [← xor_sgn h]; exact v_xorK rfl rfl) ?_
 refine Xa ?_
 refine Ze (Zt (w_ret ?_))
 refine ret1 rfl rfl (fun w' hm => ⟨?_, hm.base (by simp)⟩)
 rfl
theorem c_rSgn (n : Int) (w : World) (h : in64 n) :
  Calls Tryz.prog 62 #[.int .i64 n] w fun e w' => e = .returned (.int .u64 (sgn n : Nat)) ∧ Later w w' := by
 refine enter (vs := [.int .i64 n]) Tryz.func62 rfl Tryz.ntmps62 rfl ?_
 refine Zs (Zr ?_)
 refine Xa ?_
 refine Ze (Zt (Zs (Zs (Zr ?_))))
 refine Xm ?_
 refine Xb rfl (v_geq rfl rfl) fun b4 hb4 => ?_
 refine Ze (Zt ?_)
 refine w_cond rfl (fun hc4 => ?_) (fun hc4 => ?_)
 ·simp only [hb4, Qz, ne_eq] at hc4
  refine Zs (Zr ?_)
  refine Xm ?_
  refine Xv rfl (v_convE (c := n) u3 u107 rfl (u64_wrap (by unfold in64 at h; omega))) ?_
  refine Xv (v := Value.int .u64 (sgn n : Nat)) rfl (v_mulE rfl rfl (by rw [u64_wrap (by unfold in64 at h; omega)]; unfold sgn; rw [if_pos (by omega)]; omega)) ?_
  refine Xa ?_
  refine Ze (Zt (w_ret (t_ret ?_)))
  refine ret1 rfl rfl (fun w' hm => ⟨?_, hm.base (by simp)⟩)
  rfl
 simp only [hb4, Qz, ne_eq] at hc4
 refine w_skip (Zt (Zs (Zr ?_)))
 refine Xm ?_
 refine Xv rfl (v_subi (c := -1 - n) rfl rfl rfl (by unfold in64 at h; omega)) ?_
 refine Xv rfl (v_convE (c := -1 - n) u3 u107 rfl (u64_wrap (by unfold in64 at h; omega))) ?_
 refine Xv rfl (v_mulE (c := 2 * (-1 - n)) rfl rfl (u64_wrap (by unfold in64 at h; omega))) ?_
 refine Xv (v := Value.int .u64 (sgn n : Nat)) rfl (v_addE rfl rfl (by rw [u64_wrap (by unfold in64 at h; omega)]; unfold sgn; rw [if_neg (by omega)]; omega)) ?_
 refine Xa ?_
 refine Ze (Zt (w_ret ?_))
 refine ret1 rfl rfl (fun w' hm => ⟨?_, hm.base (by simp)⟩)
 rfl
theorem c_rN1 (n : Nat) (w : World) (hn : n < 18446744073709551616) (ih : ¬n < 128 → ∀ w1, Calls Tryz.prog 59 #[.int .u64 ((n / 128 : Nat) : Int)] w1 fun e w2 => e = .returned (.string ⟨(numG (n / 128)).toArray⟩) ∧ Later w1 w2) :
  Calls Tryz.prog 59 #[.int .u64 (n : Nat)] w fun e w' => e = .returned (.string ⟨(numG n).toArray⟩) ∧ Later w w' := by
 refine enter (vs := [.int .u64 (n : Nat)]) Tryz.func59 rfl Tryz.ntmps59 rfl ?_
 refine Zs (Zr ?_)
 refine Xa ?_
 refine Ze (Zt (Zs (Zs (Zr ?_))))
 refine Xm ?_
 refine Xb rfl (v_lss rfl rfl) fun b4 hb4 => ?_
 refine Ze (Zt ?_)
 refine w_cond rfl (fun hc4 => ?_) (fun hc4 => ?_)
 ·simp only [hb4, Qz, ne_eq] at hc4
  have hn1 : n < 128 := by omega
  refine Zs (Zr ?_)
  refine Xm ?_
  refine Xv rfl (v_convU8 u107 u5 rfl (by omega)) ?_
  refine x_buildSliceL rfl rfl rfl u45 sz5 zr5 rfl rfl rfl ?_
  intro p7
  refine Xv rfl (v_toStr [UInt8.ofNat n] u45 u5 u9 rfl rfl (fun j hj => at_ownL (vs := [Value.int .u8 ((UInt8.ofNat n).toNat : Nat)]) (.head _) (by match j, hj with | 0, _ => rfl))) ?_
  refine Xa ?_
  refine Ze (Zt (w_ret (t_ret ?_)))
  refine ret1 rfl rfl (fun w' hm => ⟨?_, hm.base (by simp)⟩)
  rw [numG_small hn1]
 simp only [hb4, Qz, ne_eq] at hc4
 have hn1 : ¬n < 128 := by omega
 refine w_skip (Zt (Zs ?_))
 refine rg_draw 11 [(true, 0), (true, 1), (true, 2), (true, 3), (true, 6), (true, 7), (true, 8), (false, 4), (true, 5), (true, 9), (true, 10)] Zk Zk ?_
 refine Xm ?_
 refine Xv (v := Value.int .u64 ((n % 128 : Nat) : Int)) rfl (v_remN (b := 128) rfl rfl (by decide)) ?_
 refine Xv (v := Value.int .u64 ((n % 128 + 128 : Nat) : Int)) rfl (v_addE rfl rfl (by rw [u64_wrap (by omega)]; omega)) ?_
 refine Xv rfl (v_convU8 u107 u5 rfl (by omega)) ?_
 refine Xm ?_
 refine Xv (v := Value.int .u64 ((n / 128 : Nat) : Int)) rfl (v_quoE rfl rfl (by decide) (by rw [show ((n : Nat) : Int).tdiv 128 = ((n / 128 : Nat) : Int) from rfl, u64_wrap (by omega)])) ?_
 refine x_callv rfl rfl rfl Tryz.func59 Zk rfl (fun w1 hw1 => ih hn1 w1) ?_
 refine x_buildSliceL rfl rfl rfl u45 sz5 zr5 rfl rfl rfl ?_
 intro p13
 refine Xv rfl (v_toStr [UInt8.ofNat (n % 128 + 128)] u45 u5 u9 rfl rfl (fun j hj => at_ownL (vs := [Value.int .u8 ((UInt8.ofNat (n % 128 + 128)).toNat : Nat)]) (.head _) (by match j, hj with | 0, _ => rfl))) ?_
 refine Xv rfl (v_saddL rfl rfl (by have := numG_ten (n := n / 128) (by omega); simp only [List.length_cons, List.length_nil]; omega)) ?_
 refine Xa ?_
 refine Ze (Zt (w_ret ?_))
 refine ret1 rfl rfl (fun w' hm => ⟨?_, hm.base (by simp)⟩)
 rw [numG_big hn1]; rfl
theorem c_rN : ∀ (m n : Nat) (w : World), n < 18446744073709551616 → n ≤ m → Calls Tryz.prog 59 #[.int .u64 (n : Nat)] w fun e w' => e = .returned (.string ⟨(numG n).toArray⟩) ∧ Later w w'
 | 0, n, w, hn, h => c_rN1 n w hn (fun h1 => by omega)
 | m + 1, n, w, hn, h => c_rN1 n w hn (fun h1 w1 => c_rN m (n / 128) w1 (by omega) (by omega))
theorem c_rNum (n : Nat) (w : World) (hn : n < 18446744073709551616) : Calls Tryz.prog 59 #[.int .u64 (n : Nat)] w fun e w' => e = .returned (.string ⟨(numG n).toArray⟩) ∧ Later w w' := c_rN n n w hn (Nat.le_refl _)
theorem c_rInts {D : Nat → Prop} {v : Value} {l : List Int} (w : World) (h : sliceRd tyI D w v l) (hll : l.length ≤ 1000000) :
  Calls Tryz.prog 26 #[v] w fun e w' => e = .returned (.string ⟨(intsG l).toArray⟩) ∧ Later w w' := by
 obtain ⟨A0, c0, rfl, hlc, hmx, -⟩ := id h
 have hin : ∀ n ∈ l, -9223372036854775808 ≤ n ∧ n ≤ 9223372036854775807 := rd_in h
 refine enter (vs := [Value.slice A0 l.length c0]) Tryz.func26 rfl Tryz.ntmps26 rfl ?_
 refine Zs (Zr ?_)
 refine Xa ?_
 refine Ze (Zt (Zs (Zr ?_)))
 refine Xm ?_
 refine Xv rfl (v_len_slice u22 rfl) ?_
 refine Xv rfl (v_convE (c := ((l.length : Nat) : Int)) u3 u107 rfl (u64_wrap (by omega))) ?_
 refine x_callv (v := Value.string ⟨(numG (l.length)).toArray⟩) rfl rfl rfl Tryz.func59 Zk rfl (fun w1 hw1 => c_rNum _ w1 (by omega)) ?_
 refine Xv (v := Value.string ⟨(intsT l 0).toArray⟩) rfl (by rw [intsT_zero]; exact v_assign rfl) ?_
 refine Ze (Zt (Zs (Zs (Zr ?_))))
 refine Xa ?_
 refine Ze (Zt (w_block ?_))
 refine w_loop (σ := Nat) (fun k => k ≤ l.length) (fun k => [(0, Value.slice A0 l.length c0), (3, Value.string ⟨(intsT l k).toArray⟩), (4, Value.int .i64 (k : Nat))]) (fun k => []) (fun k => [(w, fun _ => True)]) (fun k => l.length - k) (0) (Nat.zero_le _) (l_start Zu (fun _ h => h)) ?_
 rintro k hk
 refine w_state ([(0, Value.slice A0 l.length c0), (3, Value.string ⟨(intsT l k).toArray⟩), (4, Value.int .i64 (k : Nat))]) ([]) ([(w, fun _ => True)]) ?_
 refine Zs (Zs (Zr ?_))
 refine Xm ?_
 refine Xm ?_
 refine Xv rfl (v_len_slice u22 rfl) ?_
 refine Xb rfl (v_lss rfl rfl) fun b12 hb12 => ?_
 refine Ze (Zt ?_)
 refine w_cond rfl (fun hc12 => ?_) (fun hc12 => ?_)
 ·simp only [hb12, Qz, ne_eq] at hc12
  have hkl : k < l.length := by omega
  obtain ⟨b0, o0, hA0, _, hc0, hk9⟩ := int_at h hkl
  have hz := intsT_len (by omega) hin k (by omega)
  have hz2 := numG_ten (sgn_lt hk9)
  refine w_skip (Zt (Zs (w_block (Zr ?_))))
  refine Xm ?_
  refine Xm ?_
  refine Xm ?_
  refine Xv rfl (v_indexAddr u22 sz3 (congrArg (fun A => some (Value.slice A l.length c0)) hA0) rfl Zo rfl) ?_
  refine Xv rfl (v_load u3 rfl rfl (at_ro (.head _) trivial (by rw [Nat.mul_one]; exact hc0))) ?_
  refine x_callv (v := Value.int .u64 ((sgn l[k] : Nat) : Int)) rfl rfl rfl Tryz.func62 Zk rfl (fun w1 hw1 => c_rSgn _ w1 hk9) ?_
  refine x_callv (v := Value.string ⟨(numG (sgn l[k])).toArray⟩) rfl rfl rfl Tryz.func59 Zk rfl (fun w1 hw1 => c_rNum _ w1 (sgn_lt hk9)) ?_
  refine Xv rfl (v_saddL rfl rfl (by omega)) ?_
  refine Xv (v := Value.string ⟨(intsT l (k + 1)).toArray⟩) rfl (by rw [intsT_succ hkl]; exact v_assign rfl) ?_
  refine Ze (b_norm (Zt (Zr ?_)))
  refine Xm ?_
  refine Xv rfl (v_addi rfl rfl rfl Zo) ?_
  refine Xa ?_
  refine Ze ?_
  exact l_norm (k + 1) (show k + 1 ≤ l.length by omega) (by omega) Zu (fun _ h => h)
 simp only [hb12, Qz, ne_eq] at hc12
 obtain rfl : k = l.length := by omega
 refine w_exit ?_
 refine t_exit ?_
 refine t_exit ?_
 refine b_hit ?_
 refine Zt (Zs (Zr ?_))
 refine Xm ?_
 refine Xa ?_
 refine Ze (Zt (w_ret ?_))
 refine ret1 rfl rfl (fun w' hm => ⟨?_, hm.base (by simp)⟩)
 rw [intsT_all]
theorem c_rPack {D : Nat → Prop} {v : Value} {l : List ByteArray} (w : World) (h : sliceRd tyStr D w v l) (hll : l.length ≤ 1000000) (hsz : ∀ s ∈ l, s.size ≤ 2000000) :
  Calls Tryz.prog 24 #[v] w fun e w' => e = .returned (.string ⟨(packG l).toArray⟩) ∧ Later w w' := by
 obtain ⟨A0, c0, rfl, hlc, hmx, -⟩ := id h
 refine enter (vs := [Value.slice A0 l.length c0]) Tryz.func24 rfl Tryz.ntmps24 rfl ?_
 refine Zs (Zr ?_)
 refine Xa ?_
 refine Ze (Zt (Zs (Zr ?_)))
 refine Xm ?_
 refine Xv rfl (v_len_slice u55 rfl) ?_
 refine Xv rfl (v_convE (c := ((l.length : Nat) : Int)) u3 u107 rfl (u64_wrap (by omega))) ?_
 refine x_callv (v := Value.string ⟨(numG (l.length)).toArray⟩) rfl rfl rfl Tryz.func59 Zk rfl (fun w1 hw1 => c_rNum _ w1 (by omega)) ?_
 refine Xv (v := Value.string ⟨(packT l 0).toArray⟩) rfl (by rw [packT_zero]; exact v_assign rfl) ?_
 refine Ze (Zt (Zs (Zs (Zr ?_))))
 refine Xa ?_
 refine Ze (Zt (w_block ?_))
 refine w_loop (σ := Nat) (fun k => k ≤ l.length) (fun k => [(0, Value.slice A0 l.length c0), (3, Value.string ⟨(packT l k).toArray⟩), (4, Value.int .i64 (k : Nat))]) (fun k => []) (fun k => [(w, fun _ => True)]) (fun k => l.length - k) (0) (Nat.zero_le _) (l_start Zu (fun _ h => h)) ?_
 rintro k hk
 refine w_state ([(0, Value.slice A0 l.length c0), (3, Value.string ⟨(packT l k).toArray⟩), (4, Value.int .i64 (k : Nat))]) ([]) ([(w, fun _ => True)]) ?_
 refine Zs (Zs (Zr ?_))
 refine Xm ?_
 refine Xm ?_
 refine Xv rfl (v_len_slice u55 rfl) ?_
 refine Xb rfl (v_lss rfl rfl) fun b12 hb12 => ?_
 refine Ze (Zt ?_)
 refine w_cond rfl (fun hc12 => ?_) (fun hc12 => ?_)
 ·simp only [hb12, Qz, ne_eq] at hc12
  have hkl : k < l.length := by omega
  obtain ⟨b0, o0, hA0, _, hc0, hk9⟩ := s_at h hkl
  have hz := packT_len (by omega) hsz (by decide) k (by omega)
  have hs9 := hsz _ (List.getElem_mem hkl)
  have hz2 := numG_ten (show l[k].size < 18446744073709551616 by omega)
  refine w_skip (Zt (Zs (w_block ?_)))
  refine rg_draw 15 [(true, 0), (true, 1), (true, 2), (true, 3), (true, 4), (true, 5), (true, 6), (true, 7), (true, 8), (true, 9), (true, 10), (true, 11), (true, 12), (true, 13), (true, 14)] Zk Zk ?_
  refine Xm ?_
  refine Xm ?_
  refine Xm ?_
  refine Xv rfl (v_indexAddr u55 sz9 (congrArg (fun A => some (Value.slice A l.length c0)) hA0) rfl Zo rfl) ?_
  refine Xv rfl (v_load u9 rfl rfl (at_ro (.head _) trivial (by rw [Nat.mul_one]; exact hc0))) ?_
  refine Xv rfl (v_len_str u9 rfl) ?_
  refine Xv rfl (v_convE (c := ((l[k].size : Nat) : Int)) u3 u107 rfl (u64_wrap (by omega))) ?_
  refine x_callv (v := Value.string ⟨(numG (l[k].size)).toArray⟩) rfl rfl rfl Tryz.func59 Zk rfl (fun w1 hw1 => c_rNum _ w1 (by omega)) ?_
  refine Xv rfl (v_saddL rfl rfl (by omega)) ?_
  refine Xm ?_
  refine Xm ?_
  refine Xv rfl (v_indexAddr u55 sz9 (congrArg (fun A => some (Value.slice A l.length c0)) hA0) rfl Zo rfl) ?_
  refine Xv rfl (v_load u9 rfl rfl (at_ro (.head _) trivial (by rw [Nat.mul_one]; exact hc0))) ?_
  refine Xv (v := Value.string ⟨(packT l (k + 1)).toArray⟩) rfl (by rw [packT_succ hkl, ← List.append_assoc, mk_app]; exact v_sadd rfl rfl (by rw [mk_size, List.length_append]; omega)) ?_
  refine Xa ?_
  refine Ze (b_norm (Zt (Zr ?_)))
  refine Xm ?_
  refine Xv rfl (v_addi rfl rfl rfl Zo) ?_
  refine Xa ?_
  refine Ze ?_
  exact l_norm (k + 1) (show k + 1 ≤ l.length by omega) (by omega) Zu (fun _ h => h)
 simp only [hb12, Qz, ne_eq] at hc12
 obtain rfl : k = l.length := by omega
 refine w_exit ?_
 refine t_exit ?_
 refine t_exit ?_
 refine b_hit ?_
 refine Zt (Zs (Zr ?_))
 refine Xm ?_
 refine Xa ?_
 refine Ze (Zt (w_ret ?_))
 refine ret1 rfl rfl (fun w' hm => ⟨?_, hm.base (by simp)⟩)
 rw [packT_all]
theorem c_Ints {D : Nat → Prop} {v : Value} {l : List Int} (w : World) (h : sliceRd tyI D w v l) (hll : l.length ≤ 1000000) :
  Calls Tryz.prog 55 #[v] w fun e w' => e = .returned (.string ⟨(intsG l).toArray⟩) ∧ Later w w' := by
 obtain ⟨A0, c0, rfl, hlc, hmx, -⟩ := id h
 have hin : ∀ n ∈ l, -9223372036854775808 ≤ n ∧ n ≤ 9223372036854775807 := rd_in h
 refine enter (vs := [Value.slice A0 l.length c0]) Tryz.func55 rfl Tryz.ntmps55 rfl ?_
 refine Zs (Zr ?_)
 refine Xa ?_
 refine Ze (Zt (Zs (Zr ?_)))
 refine x_alloc rfl rfl rfl zr130 ?_
 intro p3
 refine Ze (Zt (Zs (Zr ?_)))
 refine Xm ?_
 refine Xv rfl (v_len_slice u22 rfl) ?_
 refine Xv rfl (v_convE (c := ((l.length : Nat) : Int)) u3 u107 rfl (u64_wrap (by omega))) ?_
 refine x_callv (v := Value.string ⟨(numG (l.length)).toArray⟩) rfl rfl rfl Tryz.func82 Zk rfl (fun w1 hw1 => c_Num _ w1 (by omega)) ?_
 refine x_turnf (τ := RowS) (v := .tuple #[.int .i64 ((numG l.length).length : Nat), .nilIface]) (fun r' => rowOK 1 r' ([] ++ numG l.length).length (byC ([] ++ numG l.length))) (fun r' => (bld2 130 5 p3 (.pointer (some ⟨p3, 0, none⟩)) r' (([] ++ numG l.length).length)) ++ []) rfl rfl Tryz.func81 Zk rfl (fun w1 hw1 => by
  have h := c_WS (l2 := []) (bs := []) (r := none) (pp := (.pointer none)) w1 (hw1.to (by first | rfl | simp [bld2, rowO])) (p := p3) (.inl rfl) ⟨(numG l.length).toArray⟩ rowOK_nil (by have := numG_ten (n := l.length) (by omega); (try show (0 : Nat) ≤ 4000000000000); omega) (by rw [mk_size]; have := numG_ten (n := l.length) (by omega); (try show (0 : Nat) ≤ 4000000000000); omega)
  rw [bl_mk, mk_size] at h
  exact h.mono fun e w2 ⟨h1, r', h2, h3⟩ => ⟨h1, r', h2, h3⟩) ?_
 intro r10 hr10
 rw [List.nil_append] at hr10
 refine Ze (Zt (Zs (Zs (Zr ?_))))
 refine Xm ?_
 refine Xv rfl (v_len_slice u22 rfl) ?_
 refine Xm ?_
 refine Ze (Zt (w_block ?_))
 refine w_loop (σ := Nat × RowS) (fun x => x.1 ≤ l.length ∧ rowOK 1 x.2 (intsT l x.1).length (byC (intsT l x.1))) (fun x => [(3, Value.pointer (some ⟨p3, 0, none⟩)), (11, Value.slice A0 l.length c0), (12, Value.int .i64 (l.length : Nat)), (13, Value.int .i64 (x.1 : Nat))]) (fun x => (bld2 130 5 p3 (.pointer (some ⟨p3, 0, none⟩)) x.2 ((intsT l x.1).length)) ++ []) (fun x => [(w, fun _ => True)]) (fun x => l.length - x.1) ((0, r10)) (⟨Nat.zero_le _, by dsimp only; rw [intsT_zero]; exact hr10⟩) (l_start Zu (fun _ h => by rw [intsT_zero]; exact h)) ?_
 rintro ⟨k, r⟩ ⟨hk, hr⟩
 refine w_state ([(3, Value.pointer (some ⟨p3, 0, none⟩)), (11, Value.slice A0 l.length c0), (12, Value.int .i64 (l.length : Nat)), (13, Value.int .i64 (k : Nat))]) ((bld2 130 5 p3 (.pointer (some ⟨p3, 0, none⟩)) r ((intsT l k).length)) ++ []) ([(w, fun _ => True)]) ?_
 dsimp only at hk hr
 refine Zs (Zr ?_)
 refine Xb rfl (v_lss rfl rfl) fun b14 hb14 => ?_
 refine Ze (Zt (Zs ?_))
 refine w_cond rfl (fun hc14 => ?_) (fun hc14 => ?_)
 ·simp only [hb14, Qz, ne_eq] at hc14
  have hkl : k < l.length := by omega
  obtain ⟨b0, o0, hA0, _, hc0, hk9⟩ := int_at h hkl
  have hz := intsT_len (by omega) hin k (by omega)
  have hz2 := numG_ten (sgn_lt hk9)
  refine w_skip (Zt (Zs (w_block (Zs (Zr ?_)))))
  refine Xv rfl (v_indexAddr u22 sz3 (congrArg (fun A => some (Value.slice A l.length c0)) hA0) rfl Zo rfl) ?_
  refine Xv rfl (v_load u3 rfl rfl (at_ro (.head _) trivial (by rw [Nat.mul_one]; exact hc0))) ?_
  refine Xa ?_
  refine Ze (Zt (Zr ?_))
  refine Xm ?_
  refine x_callv (v := Value.int .u64 ((sgn l[k] : Nat) : Int)) rfl rfl rfl Tryz.func84 Zk rfl (fun w1 hw1 => c_Sgn _ w1 hk9) ?_
  refine x_callv (v := Value.string ⟨(numG (sgn l[k])).toArray⟩) rfl rfl rfl Tryz.func82 Zk rfl (fun w1 hw1 => c_Num _ w1 (sgn_lt hk9)) ?_
  refine x_turnf (τ := RowS) (v := .tuple #[.int .i64 ((numG (sgn l[k])).length : Nat), .nilIface]) (fun r' => rowOK 1 r' ((intsT l k) ++ numG (sgn l[k])).length (byC ((intsT l k) ++ numG (sgn l[k])))) (fun r' => (bld2 130 5 p3 (.pointer (some ⟨p3, 0, none⟩)) r' (((intsT l k) ++ numG (sgn l[k])).length)) ++ []) rfl rfl Tryz.func81 Zk rfl (fun w1 hw1 => by
   have h := c_WS (l2 := []) (bs := (intsT l k)) (r := r) (pp := (.pointer (some ⟨p3, 0, none⟩))) w1 (hw1.to (by first | rfl | simp [bld2, rowO])) (p := p3) (.inr rfl) ⟨(numG (sgn l[k])).toArray⟩ hr (by omega) (by rw [mk_size]; omega)
   rw [bl_mk, mk_size] at h
   exact h.mono fun e w2 ⟨h1, r', h2, h3⟩ => ⟨h1, r', h2, h3⟩) ?_
  intro r20 hr20
  refine Ze (b_norm (Zt (Zr ?_)))
  refine Xv rfl (v_addi rfl rfl rfl Zo) ?_
  refine Xm ?_
  refine Ze ?_
  exact l_norm (x := (k, r)) (μ := fun q : Nat × RowS => l.length - q.1) (k + 1, r20) ⟨by dsimp only; omega, by dsimp only; rw [intsT_succ hkl]; exact hr20⟩ (by simp only; omega) Zu (fun _ h => by rw [intsT_succ hkl]; exact h)
 simp only [hb14, Qz, ne_eq] at hc14
 refine w_exit ?_
 refine t_exit ?_
 refine t_exit ?_
 refine b_hit ?_
 refine Zt (Zs (Zr ?_))
 obtain rfl : k = l.length := by omega
 rw [intsT_all] at hr
 refine x_turnf (τ := Unit) (v := .string ⟨(intsG l).toArray⟩) (fun _ => True) (fun _ => []) rfl rfl Tryz.func83 Zk rfl (fun w1 hw1 => (c_BS (l2 := []) (bs := intsG l) w1 (hw1.to (by rw [intsT_all])) (p := p3) (.inr rfl) hr (B := w.heap.size) (fun q hq => by rw [List.mem_singleton.1 hq]; exact Nat.le_refl _) (fun q hq => by cases hq) (fun q hq => hw1.newer (by simp) (by rw [intsT_all]; exact List.mem_append_left _ hq)) (hw1.base (by simp)).size).mono fun e w2 h => ⟨h.1, (), trivial, h.2⟩) fun _ _ => ?_
 refine Xa ?_
 refine Ze (Zt (w_ret ?_))
 refine ret1 rfl rfl (fun w' hm => ⟨?_, hm.base (by simp)⟩)
 rfl
theorem c_Pack {D : Nat → Prop} {v : Value} {l : List ByteArray} (w : World) (h : sliceRd tyStr D w v l) (hll : l.length ≤ 1000000) (hsz : ∀ s ∈ l, s.size ≤ 2000000) :
  Calls Tryz.prog 53 #[v] w fun e w' => e = .returned (.string ⟨(packG l).toArray⟩) ∧ Later w w' := by
 obtain ⟨A0, c0, rfl, hlc, hmx, -⟩ := id h
 refine enter (vs := [Value.slice A0 l.length c0]) Tryz.func53 rfl Tryz.ntmps53 rfl ?_
 refine Zs (Zr ?_)
 refine Xa ?_
 refine Ze (Zt (Zs (Zr ?_)))
 refine x_alloc rfl rfl rfl zr130 ?_
 intro p3
 refine Ze (Zt (Zs (Zr ?_)))
 refine Xm ?_
 refine Xv rfl (v_len_slice u55 rfl) ?_
 refine Xv rfl (v_convE (c := ((l.length : Nat) : Int)) u3 u107 rfl (u64_wrap (by omega))) ?_
 refine x_callv (v := Value.string ⟨(numG (l.length)).toArray⟩) rfl rfl rfl Tryz.func82 Zk rfl (fun w1 hw1 => c_Num _ w1 (by omega)) ?_
 refine x_turnf (τ := RowS) (v := .tuple #[.int .i64 ((numG l.length).length : Nat), .nilIface]) (fun r' => rowOK 1 r' ([] ++ numG l.length).length (byC ([] ++ numG l.length))) (fun r' => (bld2 130 5 p3 (.pointer (some ⟨p3, 0, none⟩)) r' (([] ++ numG l.length).length)) ++ []) rfl rfl Tryz.func81 Zk rfl (fun w1 hw1 => by
  have h := c_WS (l2 := []) (bs := []) (r := none) (pp := (.pointer none)) w1 (hw1.to (by first | rfl | simp [bld2, rowO])) (p := p3) (.inl rfl) ⟨(numG l.length).toArray⟩ rowOK_nil (by have := numG_ten (n := l.length) (by omega); (try show (0 : Nat) ≤ 4000000000000); omega) (by rw [mk_size]; have := numG_ten (n := l.length) (by omega); (try show (0 : Nat) ≤ 4000000000000); omega)
  rw [bl_mk, mk_size] at h
  exact h.mono fun e w2 ⟨h1, r', h2, h3⟩ => ⟨h1, r', h2, h3⟩) ?_
 intro r10 hr10
 rw [List.nil_append] at hr10
 refine Ze (Zt (Zs (Zs (Zr ?_))))
 refine Xm ?_
 refine Xv rfl (v_len_slice u55 rfl) ?_
 refine Xm ?_
 refine Ze (Zt (w_block ?_))
 refine w_loop (σ := Nat × RowS) (fun x => x.1 ≤ l.length ∧ rowOK 1 x.2 (packT l x.1).length (byC (packT l x.1))) (fun x => [(3, Value.pointer (some ⟨p3, 0, none⟩)), (11, Value.slice A0 l.length c0), (12, Value.int .i64 (l.length : Nat)), (13, Value.int .i64 (x.1 : Nat))]) (fun x => (bld2 130 5 p3 (.pointer (some ⟨p3, 0, none⟩)) x.2 ((packT l x.1).length)) ++ []) (fun x => [(w, fun _ => True)]) (fun x => l.length - x.1) ((0, r10)) (⟨Nat.zero_le _, by dsimp only; rw [packT_zero]; exact hr10⟩) (l_start Zu (fun _ h => by rw [packT_zero]; exact h)) ?_
 rintro ⟨k, r⟩ ⟨hk, hr⟩
 refine w_state ([(3, Value.pointer (some ⟨p3, 0, none⟩)), (11, Value.slice A0 l.length c0), (12, Value.int .i64 (l.length : Nat)), (13, Value.int .i64 (k : Nat))]) ((bld2 130 5 p3 (.pointer (some ⟨p3, 0, none⟩)) r ((packT l k).length)) ++ []) ([(w, fun _ => True)]) ?_
 dsimp only at hk hr
 refine Zs (Zr ?_)
 refine Xb rfl (v_lss rfl rfl) fun b14 hb14 => ?_
 refine Ze (Zt (Zs ?_))
 refine w_cond rfl (fun hc14 => ?_) (fun hc14 => ?_)
 ·simp only [hb14, Qz, ne_eq] at hc14
  have hkl : k < l.length := by omega
  obtain ⟨b0, o0, hA0, _, hc0, hk9⟩ := s_at h hkl
  have hz := packT_len (by omega) hsz (by decide) k (by omega)
  have hs9 := hsz _ (List.getElem_mem hkl)
  have hz2 := numG_ten (show l[k].size < 18446744073709551616 by omega)
  refine w_skip (Zt (Zs (w_block (Zs (Zr ?_)))))
  refine Xv rfl (v_indexAddr u55 sz9 (congrArg (fun A => some (Value.slice A l.length c0)) hA0) rfl Zo rfl) ?_
  refine Xv rfl (v_load u9 rfl rfl (at_ro (.head _) trivial (by rw [Nat.mul_one]; exact hc0))) ?_
  refine Xa ?_
  refine Ze (Zt (Zr ?_))
  refine Xm ?_
  refine Xv rfl (v_len_str u9 rfl) ?_
  refine Xv rfl (v_convE (c := ((l[k].size : Nat) : Int)) u3 u107 rfl (u64_wrap (by omega))) ?_
  refine x_callv (v := Value.string ⟨(numG (l[k].size)).toArray⟩) rfl rfl rfl Tryz.func82 Zk rfl (fun w1 hw1 => c_Num _ w1 (by omega)) ?_
  refine Xm ?_
  refine Xv (v := Value.string ⟨(numG l[k].size ++ bl l[k]).toArray⟩) rfl (by rw [mk_app]; exact v_sadd rfl rfl (by rw [mk_size]; omega)) ?_
  refine x_turnf (τ := RowS) (v := .tuple #[.int .i64 (((numG l[k].size ++ bl l[k])).length : Nat), .nilIface]) (fun r' => rowOK 1 r' ((packT l k) ++ (numG l[k].size ++ bl l[k])).length (byC ((packT l k) ++ (numG l[k].size ++ bl l[k])))) (fun r' => (bld2 130 5 p3 (.pointer (some ⟨p3, 0, none⟩)) r' (((packT l k) ++ (numG l[k].size ++ bl l[k])).length)) ++ []) rfl rfl Tryz.func81 Zk rfl (fun w1 hw1 => by
   have h := c_WS (l2 := []) (bs := (packT l k)) (r := r) (pp := (.pointer (some ⟨p3, 0, none⟩))) w1 (hw1.to (by first | rfl | simp [bld2, rowO])) (p := p3) (.inr rfl) ⟨((numG l[k].size ++ bl l[k])).toArray⟩ hr (by (try simp only [List.length_append, bl_len]); omega) (by rw [mk_size]; (try simp only [List.length_append, bl_len]); omega)
   rw [bl_mk, mk_size] at h
   exact h.mono fun e w2 ⟨h1, r', h2, h3⟩ => ⟨h1, r', h2, h3⟩) ?_
  intro r23 hr23
  refine Ze (b_norm (Zt (Zr ?_)))
  refine Xv rfl (v_addi rfl rfl rfl Zo) ?_
  refine Xm ?_
  refine Ze ?_
  exact l_norm (x := (k, r)) (μ := fun q : Nat × RowS => l.length - q.1) (k + 1, r23) ⟨by dsimp only; omega, by dsimp only; rw [packT_succ hkl]; exact hr23⟩ (by simp only; omega) Zu (fun _ h => by rw [packT_succ hkl]; exact h)
 simp only [hb14, Qz, ne_eq] at hc14
 refine w_exit ?_
 refine t_exit ?_
 refine t_exit ?_
 refine b_hit ?_
 refine Zt (Zs (Zr ?_))
 obtain rfl : k = l.length := by omega
 rw [packT_all] at hr
 refine x_turnf (τ := Unit) (v := .string ⟨(packG l).toArray⟩) (fun _ => True) (fun _ => []) rfl rfl Tryz.func83 Zk rfl (fun w1 hw1 => (c_BS (l2 := []) (bs := packG l) w1 (hw1.to (by rw [packT_all])) (p := p3) (.inr rfl) hr (B := w.heap.size) (fun q hq => by rw [List.mem_singleton.1 hq]; exact Nat.le_refl _) (fun q hq => by cases hq) (fun q hq => hw1.newer (by simp) (by rw [packT_all]; exact List.mem_append_left _ hq)) (hw1.base (by simp)).size).mono fun e w2 h => ⟨h.1, (), trivial, h.2⟩) fun _ _ => ?_
 refine Xa ?_
 refine Ze (Zt (w_ret ?_))
 refine ret1 rfl rfl (fun w' hm => ⟨?_, hm.base (by simp)⟩)
 rfl
open Go.RowKit Go.PK
theorem rdE_in {D : Nat → Prop} {w : World} {A : Option Addr} {l c : Nat} {xs : List Ent} (h : sliceRd tyEnt D w (.slice A l c) xs) : ∀ x ∈ xs, entIn x := fun d hd => by
 obtain ⟨j, hj, rfl⟩ := List.getElem_of_mem hd
 obtain ⟨_, _, _, _, _, h1⟩ := ent_at h hj
 exact h1
set_option maxHeartbeats 1000000 in
theorem c_Enc {v1 v2 v3 : Value} {bs : Nat} (p : Pat) (es : List Ent) (w : World) (hS : SerRd w bs p es v1 v2 v3) (hlen : es.length ≤ 1000) (hL : LD w) :
  Calls Tryz.prog 21 #[.pointer (some ⟨bs, 0, none⟩)] w fun e w' => e = .returned (.string (encQ p es)) ∧ Later w w' := by
 obtain ⟨A1, c1, rfl, hlc1, hmx1, hB1⟩ := id hS.lvs
 obtain ⟨A2, c2, rfl, hlc2, hmx2, hB2⟩ := id hS.sts
 obtain ⟨A3, c3, rfl, hlc3, hmx3, hB3⟩ := id hS.ent
 refine enter (vs := [.pointer (some ⟨bs, 0, none⟩)]) Tryz.func21 rfl Tryz.ntmps21 rfl ?_
 refine Zs (Zr ?_)
 refine Xa ?_
 refine Ze (Zt (Zs (Zs (Zr ?_))))
 refine Xm ?_
 refine Xb rfl (v_pnil (o := some ⟨bs, 0, none⟩) u28 rfl rfl) fun b8 hb8 => ?_
 refine Ze (Zt ?_)
 refine w_cond rfl (fun hc8 => ?_) (fun hc8 => ?_)
 ·simp [hb8] at hc8
 skip
 refine w_skip (Zt (Zs (Zr ?_)))
 refine Xa ?_
 refine Ze (Zt (Zs (Zs (Zr ?_))))
 refine Xm ?_
 refine Xv rfl (v_nilCheck rfl) ?_
 refine Xv rfl (v_fieldAddr (off' := 4) u61 rfl sz59 (by decide) rfl rfl) ?_
 refine Xv rfl (v_load u59 rfl rfl (at_ro (.head _) trivial (hS.cells 4 (by simp)))) ?_
 refine Xv rfl (v_len_slice u59 rfl) ?_
 refine Xm ?_
 refine Ze (Zt (w_block ?_))
 refine w_loop (σ := Nat × RowS) (fun x => x.1 ≤ es.length ∧ rowOK 1 x.2 (x.1 * 4) ((entsI (es.take x.1)).map (Value.int .i64))) (fun x => [(0, .pointer (some ⟨bs, 0, none⟩)), (3, rowV x.2 (x.1 * 4)), (12, .slice A3 es.length c3), (13, Value.int .i64 (es.length : Nat)), (14, Value.int .i64 (x.1 : Nat))]) (fun x => rowO 3 x.2) (fun x => [(w, fun _ => True)]) (fun x => es.length - x.1) ((0, none)) (⟨Nat.zero_le _, rowOK_nil⟩) (l_start Zu (fun _ h => h)) ?_
 rintro ⟨k, R⟩ ⟨hk, hR⟩
 refine w_state ([(0, .pointer (some ⟨bs, 0, none⟩)), (3, rowV R (k * 4)), (12, .slice A3 es.length c3), (13, Value.int .i64 (es.length : Nat)), (14, Value.int .i64 (k : Nat))]) (rowO 3 R) ([(w, fun _ => True)]) ?_
 dsimp only at hk hR
 refine Zs (Zr ?_)
 refine Xb rfl (v_lss rfl rfl) fun b15 hb15 => ?_
 refine Ze (Zt (Zs ?_))
 refine w_cond rfl (fun hc15 => ?_) (fun hc15 => ?_)
 ·simp only [hb15, Qz, ne_eq] at hc15
  have hkl : k < es.length := by omega
  obtain ⟨b0, o0, hA0, _, hc0, hin0⟩ := ent_at hS.ent hkl
  obtain ⟨e1, e2, e3⟩ := id hin0
  refine w_skip (Zt (Zs (w_block (Zs (Zr ?_)))))
  refine Xv rfl (v_indexAddr u59 sz85 (congrArg (fun A => some (Value.slice A es.length c3)) hA0) rfl Zo rfl) ?_
  refine Xv rfl (v_loadN (vs := entC es[k]) u85 rfl sz85 rfl (fun j hj => at_ro (.head _) trivial (hc0 j hj))) ?_
  refine x_alloc rfl rfl rfl zr85 ?_
  intro p5
  refine x_store0 [] rfl rfl rfl rfl sz85 rfl rfl ?_
  refine Ze (Zt (Zs (Zr ?_)))
  refine Xa ?_
  refine Ze (Zt ?_)
  refine w_seq_cut (σ := Int) (fun z => z = if es[k].sk then 1 else 0) (fun z => [(0, .pointer (some ⟨bs, 0, none⟩)), (3, rowV R (k * 4)), (5, .pointer (some ⟨p5, 0, none⟩)), (6, Value.int .i64 z), (12, .slice A3 es.length c3), (13, Value.int .i64 (es.length : Nat)), (14, Value.int .i64 (k : Nat))]) (fun z => (p5, Obj.cells (entC es[k]).toArray 85 (0, 0)) :: rowO 3 R) (fun z => [(w, fun _ => True)]) ?_ ?_
  ·refine w_seq ?_
   refine Zr ?_
   refine Xv rfl (v_fieldAddr (off' := 2) u85 rfl sz4 (by decide) rfl rfl) ?_
   refine Xb rfl (v_load u4 rfl rfl (at_ownL (vs := entC es[k]) (.head _) rfl)) fun b19 hb19 => ?_
   refine Ze (Zt ?_)
   refine w_cond rfl (fun hc19 => ?_) (fun hc19 => ?_)
   ·have hsk : es[k].sk = true := hb19.symm.trans hc19
    refine Zr ?_
    refine Xa ?_
    refine Ze ?_
    exact c_norm 1 (by rw [hsk]; rfl) Zu (fun _ h => h)
   have hsk : es[k].sk = false := hb19.symm.trans hc19
   refine w_skip ?_
   exact c_norm 0 (by rw [hsk]; rfl) Zu (fun _ h => h)
  rintro z hz
  refine w_state ([(0, .pointer (some ⟨bs, 0, none⟩)), (3, rowV R (k * 4)), (5, .pointer (some ⟨p5, 0, none⟩)), (6, Value.int .i64 z), (12, .slice A3 es.length c3), (13, Value.int .i64 (es.length : Nat)), (14, Value.int .i64 (k : Nat))]) ((p5, Obj.cells (entC es[k]).toArray 85 (0, 0)) :: rowO 3 R) ([(w, fun _ => True)]) ?_
  refine Zr ?_
  refine Xm ?_
  refine Xv rfl (v_fieldAddr (off' := 0) u85 rfl sz3 (by decide) rfl rfl) ?_
  refine Xv rfl (v_load u3 rfl rfl (at_ownL (vs := entC es[k]) (.head _) rfl)) ?_
  refine Xv rfl (v_fieldAddr (off' := 1) u85 rfl sz3 (by decide) rfl rfl) ?_
  refine Xv rfl (v_load u3 rfl rfl (at_ownL (vs := entC es[k]) (.head _) rfl)) ?_
  refine Xm ?_
  refine Xv rfl (v_fieldAddr (off' := 3) u85 rfl sz3 (by decide) rfl rfl) ?_
  refine Xv rfl (v_load u3 rfl rfl (at_ownL (vs := entC es[k]) (.head _) rfl)) ?_
  refine x_buildSliceL (cs := [Value.int .i64 es[k].fr, Value.int .i64 es[k].to, Value.int .i64 z, Value.int .i64 es[k].day]) rfl rfl rfl u22 sz3 zr3 rfl rfl rfl ?_
  intro p28
  refine x_append (e := 3) [(p28, Obj.cells ([Value.int .i64 es[k].fr, Value.int .i64 es[k].to, Value.int .i64 z, Value.int .i64 es[k].day]).toArray 3 (0, 0)), (p5, Obj.cells (entC es[k]).toArray 85 (0, 0))] (l2 := []) R (len := k * 4) (xs := (entsI (es.take k)).map (Value.int .i64)) rfl rfl rfl rfl (by simp only [List.append_nil]; rfl) hR u22 ap3 rfl rfl (m := 4) (news := [Value.int .i64 es[k].fr, Value.int .i64 es[k].to, Value.int .i64 z, Value.int .i64 es[k].day]) (fun i hi => at_ownL (vs := [Value.int .i64 es[k].fr, Value.int .i64 es[k].to, Value.int .i64 z, Value.int .i64 es[k].day]) (.head _) (by rw [Nat.zero_add]; exact List.getElem?_eq_getElem hi)) rfl Zx (by omega) fun R' hR' => ?_
  rw [List.append_nil]
  refine Xa ?_
  refine Ze (b_norm (Zt (Zr ?_)))
  refine Xv rfl (v_addi rfl rfl rfl Zo) ?_
  refine Xm ?_
  refine Ze ?_
  exact l_norm (x := (k, R)) (μ := fun q : Nat × RowS => es.length - q.1) (k + 1, R') ⟨by dsimp only; omega, by dsimp only; rw [entsI_snoc hkl, List.map_append, show (k + 1) * 4 = k * 4 + 4 by omega]; subst hz; exact hR'⟩ (by simp only; omega) (by dsimp only; rw [show (k + 1) * 4 = k * 4 + 4 by omega]; exact Zu) (fun w1 h => h.less (((List.Sublist.refl _).cons _).cons _) (fun _ h => h))
 simp only [hb15, Qz, ne_eq] at hc15
 obtain rfl : k = es.length := by omega
 rw [List.take_length] at hR
 have hin9 := entsI_in (rdE_in hS.ent)
 have hln9 := entsI_len es
 refine w_exit ?_
 refine t_exit ?_
 refine t_exit ?_
 refine b_hit ?_
 refine Zt (Zs (Zr ?_))
 refine Xm ?_
 refine Xv rfl (v_nilCheck rfl) ?_
 refine Xv rfl (v_fieldAddr (off' := 0) u61 rfl sz26 (by decide) rfl rfl) ?_
 refine Xv rfl (v_loadN (vs := ([Value.int .i64 p.first, Value.int .i64 p.days, Value.slice A1 p.lv.length c1, Value.slice A2 p.st.length c2, Value.slice A3 es.length c3]).take 4) u26 rfl sz26 rfl (fun j hj => at_ro (.head _) trivial (by match j, hj with | 0, _ => exact hS.cells 0 (by simp) | 1, _ => exact hS.cells 1 (by simp) | 2, _ => exact hS.cells 2 (by simp) | 3, _ => exact hS.cells 3 (by simp)))) ?_
 refine x_callv rfl rfl rfl Tryz.func54 Zk rfl (fun w1 hw1 => c_Write p w1 (patRd.keep (⟨hS.fst, hS.dys, hS.lvs, hS.sts⟩ : patRd (fun _ => True) w p (.slice A1 p.lv.length c1) (.slice A2 p.st.length c2)) (Kept.later (hw1.base (by simp)))) (hL.later (hw1.base (by simp)))) ?_
 refine Xm ?_
 refine x_callv (v := Value.string ⟨(intsG (entsI es)).toArray⟩) rfl rfl rfl Tryz.func55 Zk rfl (fun w1 hw1 => c_Ints w1 (rowI_rd (D := fun _ => True) (e := 3) hR hln9.symm hin9 hw1 (fun q hq => hq) (fun _ _ => trivial)) (by rw [hln9]; omega)) ?_
 refine x_buildSliceL (cs := [Value.string (writeQ p), Value.string ⟨(intsG (entsI es)).toArray⟩]) rfl rfl rfl u55 sz9 zr9 rfl rfl rfl ?_
 intro p38
 have hz1 : (writeQ p).size ≤ 2000000 := by
  by_cases hq : rightQ p
  ·have := wr_sz hq; omega
  unfold writeQ; rw [if_neg hq]; decide
 have hz2 : (⟨(intsG (entsI es)).toArray⟩ : ByteArray).size ≤ 2000000 := by
  rw [mk_size, ← intsT_all]
  have := intsT_len (l := entsI es) (by omega) hin9 _ (Nat.le_refl _)
  omega
 refine x_callv (v := Value.string (encQ p es)) rfl rfl rfl Tryz.func53 Zk rfl (fun w1 hw1 => c_Pack (l := [writeQ p, ⟨(intsG (entsI es)).toArray⟩]) (D := fun _ => True) w1 (row1_rd (T := tyStr) (e := 9) (r := some (p38, [writeQ p, ⟨(intsG (entsI es)).toArray⟩].map Value.string, 2)) Value.string rfl (rowOK_lit rfl (by simp [maxLen])) rfl (fun D9 w9 s hs => ⟨rfl, by unfold okS; rcases List.mem_cons.1 hs with rfl | hs; (· omega); rw [List.mem_singleton.1 hs]; omega⟩) hw1 (fun q hq => by rw [show q = _ from List.mem_singleton.1 hq]; exact .head _) (fun _ _ => trivial)) (by simp) (fun s hs => by rcases List.mem_cons.1 hs with rfl | hs; (· exact hz1); rw [List.mem_singleton.1 hs]; exact hz2)) ?_
 refine Xa ?_
 refine Ze (Zt (w_ret ?_))
 refine ret1 rfl rfl (fun w' hm => ⟨?_, hm.base (by simp)⟩)
 rfl
theorem c_Call {D : Nat → Prop} {v1 v2 : Value} (p : Pat) (a : ActD) (w : World) (hp : patRd D w p v1 v2) (hq : rightQ p) (ha : actIn a) :
  Calls Tryz.prog 12 #[.agg (actC a).toArray, .agg #[.int .i64 p.first, .int .i64 p.days, v1, v2]] w fun e w' => e = .returned (.tuple #[.string (callT p a), .int .i64 (callD p a)]) ∧ Later w w' := by
 obtain ⟨hp1, hp2, h1, h2⟩ := id hp
 obtain ⟨A1, c1, rfl, hlc1, hmx1, hB1⟩ := id h1
 obtain ⟨A2, c2, rfl, hlc2, hmx2, hB2⟩ := id h2
 obtain ⟨bL, oL, hL0, hLk⟩ := rd_blk h1
 obtain ⟨bS, oS, hS0, hSk⟩ := rd_blk h2
 have e1 := Int.emod_nonneg a.fr (show (200 : Int) ≠ 0 by decide)
 have e2 := Int.emod_lt_of_pos a.fr (show (0 : Int) < 200 by decide)
 have e3 := Int.emod_nonneg a.to (show (320 : Int) ≠ 0 by decide)
 have e4 := Int.emod_lt_of_pos a.to (show (0 : Int) < 320 by decide)
 have s1 := isT_sz hq e1 (by omega) a.sk
 have s2 := txN_sz hq e3 (by omega)
 have s3 := txN_sz hq e1 (by omega)
 refine enter (vs := [.agg (actC a).toArray, .agg #[.int .i64 p.first, .int .i64 p.days, .slice A1 p.lv.length c1, .slice A2 p.st.length c2]]) Tryz.func12 rfl Tryz.ntmps12 rfl ?_
 refine Zs (Zr ?_)
 refine x_box rfl rfl rfl rfl ?_
 intro p2
 refine x_box rfl rfl rfl rfl ?_
 intro p3
 refine Xa ?_
 refine Xa ?_
 refine Ze (Zt (Zs (Zr ?_)))
 refine Xv rfl (v_fieldAddr (off' := 0) u26 rfl sz3 (by decide) rfl rfl) ?_
 refine Xv rfl (v_load u3 rfl rfl (at_ownL Zh rfl)) ?_
 refine Xv rfl (v_fieldAddr (off' := 2) u34 rfl sz3 (by decide) rfl rfl) ?_
 refine Xv rfl (v_load u3 rfl rfl (at_ownL (vs := actC a) Zh rfl)) ?_
 refine Xv (v := Value.int .i64 (callD p a)) rfl (v_add rfl rfl) ?_
 refine Xa ?_
 refine Ze (Zt (Zs (Zs (Zr ?_))))
 refine Xv rfl (v_fieldAddr (off' := 5) u34 rfl sz9 (by decide) rfl rfl) ?_
 refine Xv rfl (v_load u9 rfl rfl (at_ownL (vs := actC a) Zh rfl)) ?_
 refine Xb rfl (v_sneq rfl rfl) fun b15 hb15 => ?_
 refine Ze (Zt ?_)
 refine w_cond rfl (fun hc15 => ?_) (fun hc15 => ?_)
 ·simp only [hb15, Qz, ne_eq] at hc15
  have hraw : a.raw ≠ ⟨#[]⟩ := hc15
  refine Zs (Zr ?_)
  refine Xv rfl (v_fieldAddr (off' := 5) u34 rfl sz9 (by decide) rfl rfl) ?_
  refine Xv rfl (v_load u9 rfl rfl (at_ownL (vs := actC a) Zh rfl)) ?_
  refine Xm ?_
  refine Xa ?_
  refine Xa ?_
  refine Ze (Zt (w_ret (t_ret ?_)))
  refine ret2 rfl rfl rfl (fun w' hm => ⟨?_, hm.base (by simp)⟩)
  unfold callT; rw [if_pos hraw]
 simp only [hb15, Qz, ne_eq] at hc15
 have hraw : ¬a.raw ≠ ⟨#[]⟩ := fun h => h hc15
 refine w_skip (Zt (Zs ?_))
 refine rg_draw 6 [(true, 0), (true, 1), (true, 2), (true, 3), (true, 4), (true, 5)] Zk Zk ?_
 refine Xv rfl (v_load_blk (e := 26) (fz := (0, 0)) (cs := #[Value.int .i64 p.first, Value.int .i64 p.days, Value.slice A1 p.lv.length c1, Value.slice A2 p.st.length c2]) u26 rfl rfl (.head _) (by exact sz26)) ?_
 refine Xv rfl (v_fieldAddr (off' := 0) u34 rfl sz3 (by decide) rfl rfl) ?_
 refine Xv rfl (v_load u3 rfl rfl (at_ownL (vs := actC a) Zh rfl)) ?_
 refine x_callv (v := Value.int .i64 (a.fr % 200)) rfl rfl rfl Tryz.func15 Zk rfl (fun w1 hw1 => c_Md _ 200 w1 ha.1 (by decide)) ?_
 refine x_callv (v := Value.string (txN (numsP p (a.fr % 200)))) rfl rfl rfl Tryz.func36 Zk rfl (fun w1 hw1 => c_Text p (a.fr % 200) w1 (hp.keep (Kept.later (hw1.base (by simp)))) hq e1 (by omega)) ?_
 refine Xa ?_
 refine Ze (Zt ?_)
 refine w_seq_cut (σ := Unit) (fun q => True) (fun q => [(2, .pointer (some ⟨p2, 0, none⟩)), (3, .pointer (some ⟨p3, 0, none⟩)), (6, Value.int .i64 (callD p a)), (7, Value.string (isT p a.sk (a.fr % 200)))]) (fun q => [(p3, Obj.cells #[Value.int .i64 p.first, Value.int .i64 p.days, Value.slice A1 p.lv.length c1, Value.slice A2 p.st.length c2] 26), (p2, Obj.cells (actC a).toArray 34 (0, 0))]) (fun q => [(w, fun _ => True)]) ?_ ?_
 ·refine w_seq ?_
  refine Zr ?_
  refine Xv rfl (v_fieldAddr (off' := 3) u34 rfl sz4 (by decide) rfl rfl) ?_
  refine Xb rfl (v_load u4 rfl rfl (at_ownL (vs := actC a) Zh rfl)) fun b25 hb25 => ?_
  refine Ze (Zt ?_)
  refine w_cond rfl (fun hc25 => ?_) (fun hc25 => ?_)
  ·have hsk : a.sk = true := hb25.symm.trans hc25
   refine Zr ?_
   refine Xm ?_
   refine Xv rfl (v_sadd (s := ⟨#[120]⟩) rfl rfl (by show 1 + _ ≤ _; omega)) ?_
   refine Xa ?_
   refine Ze ?_
   exact c_norm () trivial (by rw [hsk]; exact Zu) (fun _ h => h)
  have hsk : a.sk = false := hb25.symm.trans hc25
  refine w_skip ?_
  exact c_norm () trivial (by rw [hsk]; exact Zu) (fun _ h => h)
 rintro _ _
 refine w_state ([(2, .pointer (some ⟨p2, 0, none⟩)), (3, .pointer (some ⟨p3, 0, none⟩)), (6, Value.int .i64 (callD p a)), (7, Value.string (isT p a.sk (a.fr % 200)))]) ([(p3, Obj.cells #[Value.int .i64 p.first, Value.int .i64 p.days, Value.slice A1 p.lv.length c1, Value.slice A2 p.st.length c2] 26), (p2, Obj.cells (actC a).toArray 34 (0, 0))]) ([(w, fun _ => True)]) ?_
 refine Zs (Zs (Zr ?_))
 refine Xv rfl (v_fieldAddr (off' := 4) u34 rfl sz4 (by decide) rfl rfl) ?_
 refine Xb rfl (v_load u4 rfl rfl (at_ownL (vs := actC a) Zh rfl)) fun b29 hb29 => ?_
 refine Ze (Zt ?_)
 refine w_cond rfl (fun hc29 => ?_) (fun hc29 => ?_)
 ·have htw : a.two = true := hb29.symm.trans hc29
  refine rg_draw 9 [(true, 0), (true, 1), (true, 2), (true, 3), (true, 4), (true, 5), (true, 6), (true, 7), (true, 8)] Zk Zk ?_
  refine Xm ?_
  refine Xv rfl (v_sadd (u := ⟨#[45]⟩) rfl rfl (by show _ + 1 ≤ _; omega)) ?_
  refine Xv rfl (v_load_blk (e := 26) (fz := (0, 0)) (cs := #[Value.int .i64 p.first, Value.int .i64 p.days, Value.slice A1 p.lv.length c1, Value.slice A2 p.st.length c2]) u26 rfl rfl (.head _) (by exact sz26)) ?_
  refine Xv rfl (v_fieldAddr (off' := 1) u34 rfl sz3 (by decide) rfl rfl) ?_
  refine Xv rfl (v_load u3 rfl rfl (at_ownL (vs := actC a) Zh rfl)) ?_
  refine x_callv (v := Value.int .i64 (a.to % 320)) rfl rfl rfl Tryz.func15 Zk rfl (fun w1 hw1 => c_Md _ 320 w1 ha.2.1 (by decide)) ?_
  refine x_callv (v := Value.string (txN (numsP p (a.to % 320)))) rfl rfl rfl Tryz.func36 Zk rfl (fun w1 hw1 => c_Text p (a.to % 320) w1 (hp.keep (Kept.later (hw1.base (by simp)))) hq e3 (by omega)) ?_
  refine Xv rfl (v_sadd rfl rfl (by rw [ByteArray.size_append]; show _ + 1 + _ ≤ _; omega)) ?_
  refine Xa ?_
  refine Ze (Zt (Zs (Zr ?_)))
  refine Xm ?_
  refine Xm ?_
  refine Xa ?_
  refine Xa ?_
  refine Ze (Zt (w_ret ?_))
  refine ret2 rfl rfl rfl (fun w' hm => ⟨?_, hm.base (by simp)⟩)
  unfold callT; rw [if_neg hraw, if_pos htw]
 have htw : a.two = false := hb29.symm.trans hc29
 refine w_skip (Zt (Zs (Zr ?_)))
 refine Xm ?_
 refine Xm ?_
 refine Xa ?_
 refine Xa ?_
 refine Ze (Zt (w_ret ?_))
 refine ret2 rfl rfl rfl (fun w' hm => ⟨?_, hm.base (by simp)⟩)
 unfold callT; rw [if_neg hraw, htw]; rfl
open Go.RowKit Go.PK
open Go.RowKit Go.PK
theorem ap91 : (Tryz.prog.info? 91).map (fun j => (j.zero, j.size, j.bytes)) = some (some (.agg #[.int .i64 0, .int .i64 0, .bool false, .int .i64 0]), 4, 32) := by kernel_rfl
theorem c_rNew {D : Nat → Prop} {v1 v2 : Value} (p : Pat) (w : World) (hp : patRd D w p v1 v2) (hq : rightQ p) :
  Calls Tryz.prog 11 #[.agg #[.int .i64 p.first, .int .i64 p.days, v1, v2]] w fun e w' => ∃ b, e = .returned (.pointer (some ⟨b, 0, none⟩)) ∧ Later w w' ∧ Mem w' [(b, Obj.cells ([Value.int .i64 p.first, Value.int .i64 p.days, v1, v2, Value.slice none 0 0]).toArray 74 (0, 0))] [(w, fun _ => True)] := by
 obtain ⟨hp1, hp2, h1, h2⟩ := id hp
 obtain ⟨A1, c1, rfl, hlc1, hmx1, hB1⟩ := id h1
 obtain ⟨A2, c2, rfl, hlc2, hmx2, hB2⟩ := id h2
 obtain ⟨bL, oL, hL0, hLk⟩ := rd_blk h1
 obtain ⟨bS, oS, hS0, hSk⟩ := rd_blk h2
 refine enter (vs := [.agg #[.int .i64 p.first, .int .i64 p.days, .slice A1 p.lv.length c1, .slice A2 p.st.length c2]]) Tryz.func11 rfl Tryz.ntmps11 rfl ?_
 refine Zs (Zr ?_)
 refine x_box rfl rfl rfl rfl ?_
 intro p1
 refine Xa ?_
 refine Ze (Zt (Zs (Zr ?_)))
 refine Xv rfl (v_load_blk (e := 26) (fz := (0, 0)) (cs := #[Value.int .i64 p.first, Value.int .i64 p.days, Value.slice A1 p.lv.length c1, Value.slice A2 p.st.length c2]) u26 rfl rfl (.head _) (by exact sz26)) ?_
 refine x_callb rfl rfl rfl Tryz.func35 Zk rfl (fun w1 hw1 => c_rRight p w1 (hp.keep (Kept.later (hw1.base (by simp))))) fun b5 hb5 => ?_
 refine Xa ?_
 refine Ze (Zt (Zs (Zs (Zr ?_))))
 refine Xm ?_
 refine Xb rfl (v_not rfl) fun b7 hb7 => ?_
 refine Ze (Zt ?_)
 refine w_cond rfl (fun hc7 => ?_) (fun hc7 => ?_)
 ·rw [hb7, hb5, decide_eq_true hq] at hc7; cases hc7
 skip
 refine w_skip (Zt (Zs (Zr ?_)))
 refine Xv rfl (v_load_blk (e := 26) (fz := (0, 0)) (cs := #[Value.int .i64 p.first, Value.int .i64 p.days, Value.slice A1 p.lv.length c1, Value.slice A2 p.st.length c2]) u26 rfl rfl (.head _) (by exact sz26)) ?_
 refine Xv (v := Value.agg ([Value.int .i64 p.first, Value.int .i64 p.days, Value.slice A1 p.lv.length c1, Value.slice A2 p.st.length c2, Value.slice none 0 0]).toArray) rfl (v_buildL (places := [(0, 4), (4, 1)]) u74 zr74 Zk rfl rfl) ?_
 refine x_box rfl rfl rfl rfl ?_
 intro p12
 refine Xa ?_
 refine Ze (Zt (w_ret ?_))
 refine ret1 rfl rfl (fun w' hm => ⟨p12, rfl, hm.base (by simp), hm.less (List.Sublist.cons_cons _ (List.nil_sublist _)) (fun _ h => h)⟩)
theorem c_rNs (s : ByteArray) (i0 : Nat) (w : World) (hs : s.size ≤ 2000000) (hi0 : i0 ≤ 2000001) :
  Calls Tryz.prog 45 #[.string s, .int .i64 (i0 : Nat)] w fun e w' => ∃ v, e = .returned (.tuple #[v, .int .i64 ((nsR s 5 i0 []).2.1 : Nat), .bool (nsR s 5 i0 []).2.2]) ∧ Later w w' ∧ sliceRd tyI (fun b => w.heap.size ≤ b) w' v (nsR s 5 i0 []).1 := by
 refine enter (vs := [.string s, .int .i64 (i0 : Nat)]) Tryz.func45 rfl Tryz.ntmps45 rfl ?_
 refine Zs (Zr ?_)
 refine Xa ?_
 refine Xa ?_
 refine Xa ?_
 refine Ze (Zt (Zs (Zr ?_)))
 refine Xa ?_
 refine Ze (Zt (w_block ?_))
 refine w_loop (σ := List Int × Nat × RowS) (fun x => x.1.length ≤ 4 ∧ (∀ d ∈ x.1, in64 d) ∧ x.2.1 ≤ 2000001 ∧ nsR s (5 - x.1.length) x.2.1 x.1 = nsR s 5 i0 [] ∧ rowOK 1 x.2.2 x.1.length (x.1.map (Value.int .i64))) (fun x => [(0, Value.string s), (1, Value.int .i64 (x.2.1 : Nat)), (7, rowV x.2.2 x.1.length)]) (fun x => rowO 3 x.2.2) (fun x => [(w, fun _ => True)]) (fun x => 5 - x.1.length) (([], i0, none)) (⟨Nat.zero_le _, (fun d hd => by cases hd), hi0, rfl, rowOK_nil⟩) (l_start Zu (fun _ h => h)) ?_
 rintro ⟨out, i, R⟩ ⟨hol, hin, hi, hN, hR⟩
 refine w_state ([(0, Value.string s), (1, Value.int .i64 (i : Nat)), (7, rowV R out.length)]) (rowO 3 R) ([(w, fun _ => True)]) ?_
 dsimp only at hol hin hi hN hR
 have hvr := val_rng s i
 have hva := val_at s i
 obtain ⟨f, hf⟩ : ∃ f, 5 - out.length = f + 1 := ⟨4 - out.length, by omega⟩
 rw [hf, nsR] at hN
 obtain ⟨n, hn⟩ : ∃ n, (valR s i).1 = n := ⟨_, rfl⟩
 rw [hn] at hvr hN
 refine w_block (Zs (Zr ?_))
 refine Xm ?_
 refine Xm ?_
 refine x_callv rfl rfl rfl Tryz.func78 Zk rfl (fun w1 hw1 => c_value s i w1 hs (by omega)) ?_
 refine Xm ?_
 refine Xv (v := Value.int .i64 n) rfl (by rw [← hn]; exact v_extract rfl rfl) ?_
 refine Xv rfl (v_extract rfl rfl) ?_
 refine Xb rfl (v_extract rfl rfl) fun b17 hb17 => ?_
 refine Xa ?_
 refine Xa ?_
 refine Xa ?_
 refine Ze (Zt (Zs (Zs (Zr ?_))))
 refine Xm ?_
 refine Xb rfl (v_not rfl) fun b19 hb19 => ?_
 refine Xm ?_
 refine Xg ?_
 refine Xi rfl rfl rfl (fun hg0 => by subst hg0; (try simp only [Qy]); exact v_len_slice u22 rfl) ?_
 refine Xj rfl rfl rfl (fun hg0 => by subst hg0; (try simp only [Qy]); exact v_eql rfl rfl) fun b23 hb23 => ?_
 refine Xb rfl (v_or rfl rfl) fun b24 hb24 => ?_
 refine Ze (Zt ?_)
 refine w_cond rfl (fun hc24 => ?_) (fun hc24 => ?_)
 ·simp only [hb24, hb23, hb19, hb17, Qz, ne_eq] at hc24
  rw [if_pos (by rcases hc24 with h | h; (· simp [h]); simp [show out.length = 4 by omega])] at hN
  refine Zs (Zr ?_)
  refine Xm ?_
  refine Xa ?_
  refine Xa ?_
  refine Xa ?_
  refine Ze (Zt (w_ret (t_ret (b_ret (t_ret (b_ret ?_))))))
  refine ret3 rfl rfl rfl rfl (fun w' hm => ⟨_, by rw [← hN], hm.base (by simp), by rw [← hN]; exact ⟨none, 0, rfl, Nat.le_refl _, Nat.zero_le _, fun h => absurd h (Nat.lt_irrefl 0)⟩⟩)
 simp only [hb24, hb23, hb19, hb17, Qz, ne_eq] at hc24
 have hvo : (valR s i).2.2 = true := by simpa using hc24.1
 have hl3 : out.length < 4 := by have := hc24.2; omega
 obtain ⟨_, _, _, hvs, _⟩ := val_ok hvo
 rw [if_neg (by rw [hvo]; simp; omega)] at hN
 refine w_skip (Zt (Zs (Zr ?_)))
 refine Xm ?_
 refine Xm ?_
 refine x_buildSliceL (cs := [Value.int .i64 n]) rfl rfl rfl u22 sz3 zr3 rfl rfl rfl ?_
 intro p28
 refine x_append (e := 3) [(p28, Obj.cells [Value.int .i64 n].toArray 3)] (l2 := []) R (len := out.length) (xs := out.map (Value.int .i64)) rfl rfl rfl rfl (by simp) hR u22 ap3 rfl rfl (m := 1) (news := [Value.int .i64 n]) (fun i hi => at_ownL (vs := [Value.int .i64 n]) (.head _) (by rw [Nat.zero_add]; exact List.getElem?_eq_getElem hi)) rfl Zx (by omega) fun R' hR' => ?_
 have hR' : rowOK 1 R' (out ++ [n]).length ((out ++ [n]).map (Value.int .i64)) := by rw [List.length_append, List.map_append]; exact hR'
 refine Xa ?_
 refine Ze (Zt (Zs (Zs (Zr ?_))))
 refine Xm ?_
 refine Xm ?_
 refine Xv rfl (v_len_str u9 rfl) ?_
 refine Xb rfl (v_eql rfl rfl) fun b33 hb33 => ?_
 refine Xm ?_
 refine Xg ?_
 refine Xg ?_
 refine Xi rfl rfl rfl (fun hg0 => by subst hg0; (try simp only [Qy]); exact v_index (j := (valR s i).2.1) u9 rfl rfl (by have h9 : ¬_ := of_decide_eq_false hb33.symm; omega)) ?_
 refine Xj rfl rfl rfl (fun hg0 => by subst hg0; (try simp only [Qy]); exact v_neq rfl rfl) fun b38 hb38 => ?_
 refine Xb rfl (v_or rfl rfl) fun b39 hb39 => ?_
 refine Ze (Zt ?_)
 refine w_cond rfl (fun hc39 => ?_) (fun hc39 => ?_)
 ·simp only [hb39, hb38, hb33, Qz, ne_eq] at hc39
  rw [if_pos (by rcases hc39 with h | h; (· exact .inl (by omega)); by_cases h9 : (valR s i).2.1 = s.size; (· exact .inl h9); exact .inr (fun h8 => by have h7 := (at_iff (by omega)).1 h8; have h7 : (byteAt s (valR s i).2.1).toNat = 47 := h7; omega))] at hN
  refine Zs (Zr ?_)
  refine Xm ?_
  refine Xm ?_
  refine Xa ?_
  refine Xa ?_
  refine Xa ?_
  refine Ze (Zt (w_ret (t_ret (b_ret (t_ret (b_ret ?_))))))
  refine ret3 rfl rfl rfl rfl (fun w' hm => ⟨rowV R' (out ++ [n]).length, by rw [← hN, List.length_append]; rfl, hm.base (by simp), ?_⟩)
  rw [← hN]
  exact rowI_rd (e := 3) hR' (by simp) (fun d hd => by rcases List.mem_append.1 hd with h | h; (· exact hin d h); rw [List.mem_singleton.1 h]; unfold in64; omega) hm (fun p hp => by simp [hp]) (fun p hp => hm.newer (by simp) (by simp [hp]))
 simp only [hb39, hb38, hb33, Qz, ne_eq] at hc39
 have h8 : (valR s i).2.1 < s.size := by have := hc39.1; omega
 rw [if_neg (by rw [not_or, Decidable.not_not]; exact ⟨by omega, (at_iff h8).2 (by show _ = 47; have := hc39.2; omega)⟩)] at hN
 refine w_skip (Zt (Zr ?_))
 refine Xm ?_
 refine Xv rfl (v_addi (c := (((valR s i).2.1 + 1 : Nat) : Int)) rfl rfl (by omega) (by omega)) ?_
 refine Xa ?_
 refine Ze (b_norm ?_)
 rw [List.append_nil]
 exact l_norm (x := (out, i, R)) (μ := fun q : List Int × Nat × RowS => 5 - q.1.length) (out ++ [n], (valR s i).2.1 + 1, R') ⟨by dsimp only; rw [List.length_append, List.length_singleton]; omega, fun d hd => by rcases List.mem_append.1 hd with h | h; (· exact hin d h); rw [List.mem_singleton.1 h]; unfold in64; omega, by dsimp only; omega, by dsimp only; rw [← hN, List.length_append, List.length_singleton, show 5 - (out.length + 1) = f by omega], hR'⟩ (by simp only [List.length_append, List.length_singleton]; omega) (by dsimp only; rw [List.length_append, List.length_singleton]; exact Zu) (fun w1 h => h.less (List.sublist_cons_self _ _) (fun _ h => h))
open Go.RowKit Go.PK
set_option maxHeartbeats 4000000 in
theorem c_rTake {w : World} {l2 : List (Nat × Obj)} {ro : List Snap} {R : RowS} {bs : Nat} {v1 v2 : Value} (p : Pat) (es : List Ent) (text : ByteArray) (day : Int) (hm : Mem w ((bs, Obj.cells ([Value.int .i64 p.first, Value.int .i64 p.days, v1, v2, rowV R es.length]).toArray 74 (0, 0)) :: (rowO 91 R ++ l2)) ro) (hp : ∀ w1 own1, Mem w1 own1 ro → patRd (fun _ => True) w1 p v1 v2) (hR : rowOK 4 R es.length (entsC es)) (hsrt : srt es) (hts : text.size ≤ 2000000) (hd : in64 day) (hlen : es.length ≤ 1000000) :
  Calls Tryz.prog 14 #[.pointer (some ⟨bs, 0, none⟩), .string text, .int .i64 day] w fun e w' => ∃ R', e = .returned (.int .i64 (takeQ p es text day).2) ∧ rowOK 4 R' (takeQ p es text day).1.length (entsC (takeQ p es text day).1) ∧ Mem w' ((bs, Obj.cells ([Value.int .i64 p.first, Value.int .i64 p.days, v1, v2, rowV R' (takeQ p es text day).1.length]).toArray 74 (0, 0)) :: (rowO 91 R' ++ l2)) ro := by
 refine enter_in hm (vs := [.pointer (some ⟨bs, 0, none⟩), .string text, .int .i64 day]) Tryz.func14 rfl Tryz.ntmps14 rfl ?_
 refine Zs (Zr ?_)
 refine Xa ?_
 refine Ze (Zt (Zs (Zr ?_)))
 refine Xa ?_
 refine Ze (Zt (Zs (Zr ?_)))
 refine Xm ?_
 refine Xv rfl (v_len_str u9 rfl) ?_
 refine Xb rfl (v_gtr rfl rfl) fun b22 hb22 => ?_
 refine Xm ?_
 refine Xg ?_
 refine Xi rfl rfl rfl (fun hg0 => by subst hg0; (try simp only [Qy]); exact v_index (j := 0) u9 rfl rfl (by have h9 := of_decide_eq_true hb22.symm; omega)) ?_
 refine Xj rfl rfl rfl (fun hg0 => by subst hg0; (try simp only [Qy]); exact v_eql rfl rfl) fun b26 hb26 => ?_
 refine Xb rfl (v_and rfl rfl) fun b27 hb27 => ?_
 obtain rfl : b27 = tkS text := by rw [tkS_eq, hb27, hb26, hb22]
 refine Xa ?_
 refine Ze (Zt ?_)
 refine w_seq_cut (σ := Unit) (fun q => True) (fun q => [(0, Value.pointer (some ⟨bs, 0, none⟩)), (1, Value.string text), (2, Value.int .i64 day), (6, Value.int .i64 0), (7, Value.int .i64 (rAt text : Nat)), (8, Value.bool (tkS text))]) (fun q => (bs, Obj.cells ([Value.int .i64 p.first, Value.int .i64 p.days, v1, v2, rowV R es.length]).toArray 74 (0, 0)) :: (rowO 91 R ++ l2)) (fun q => ro) ?_ ?_
 ·refine w_seq ?_
  refine Zr ?_
  refine Xm ?_
  refine Ze (Zt ?_)
  refine w_cond rfl (fun hc28 => ?_) (fun hc28 => ?_)
  ·have hs1 : tkS text = true := hc28
   refine Zr ?_
   refine Xa ?_
   refine Ze ?_
   exact c_norm () trivial (by unfold rAt; rw [hs1]; exact Zu) (fun _ h => h)
  have hs1 : tkS text = false := hc28
  refine w_skip ?_
  exact c_norm () trivial (by unfold rAt; rw [hs1]; exact Zu) (fun _ h => h)
 rintro _ _
 refine Zs (Zr ?_)
 refine Xm ?_
 refine Xm ?_
 have hat : rAt text ≤ 1 := by unfold rAt; split <;> omega
 refine x_call (R := fun v wa wb => ∃ v2, v = .tuple #[v2, .int .i64 ((rA text).2.1 : Nat), .bool (rA text).2.2] ∧ sliceRd tyI (fun b => wa.heap.size ≤ b) wb v2 (rA text).1) rfl rfl rfl Tryz.func45 Zk rfl (fun w1 hw1 => (c_rNs text (rAt text) w1 hts (by omega)).mono fun e w2 ⟨v, h1, h2, h3⟩ => ⟨_, h1, h2, v, by rw [show rA text = nsR text 5 (rAt text) [] from rfl], by rw [show rA text = nsR text 5 (rAt text) [] from rfl]; exact h3⟩) fun v32 wa32 wb32 hm32 hl32 hR32 => ?_
 obtain ⟨v32_, rfl, hn32⟩ := hR32
 obtain ⟨A32, k32, rfl, _⟩ := id hn32
 refine Xm ?_
 refine Xv rfl (v_extract rfl rfl) ?_
 refine Xv rfl (v_extract rfl rfl) ?_
 refine Xb rfl (v_extract rfl rfl) fun b35 hb35 => ?_
 refine Xa ?_
 refine Xa ?_
 refine Xa ?_
 refine Ze (Zt (Zs (Zr ?_)))
 refine Xm ?_
 refine Xa ?_
 refine Ze (Zt (Zs (Zs (Zr ?_))))
 refine Xm ?_
 refine Xm ?_
 refine Xg ?_
 refine Xg ?_
 refine Xi rfl rfl rfl (fun hg0 => by subst hg0; (try simp only [Qy]); exact v_len_str u9 rfl) ?_
 refine Xj rfl rfl rfl (fun hg0 => by subst hg0; (try simp only [Qy]); exact v_lss rfl rfl) fun b42 hb42 => ?_
 refine Xb rfl (v_and rfl rfl) fun b43 hb43 => ?_
 refine Xm ?_
 refine Xg ?_
 refine Xg ?_
 refine Xi rfl rfl rfl (fun hg0 => by subst hg0; (try simp only [Qy]); exact v_index (j := (rA text).2.1) u9 rfl rfl (by have h9 : _ = true ∧ _ := Bool.and_eq_true _ _ ▸ hb43.symm; have h8 := of_decide_eq_true (hb42.symm.trans h9.2); omega)) ?_
 refine Xj rfl rfl rfl (fun hg0 => by subst hg0; (try simp only [Qy]); exact v_eql rfl rfl) fun b48 hb48 => ?_
 refine Xb rfl (v_and rfl rfl) fun b49 hb49 => ?_
 refine Ze (Zt ?_)
 refine w_cond rfl (fun hc49 => ?_) (fun hc49 => ?_)
 ·have hd9 : rDash text = true := by rw [rDash_eq, ← hc49, hb49, hb48, hb43, hb42, hb35]
  have hB : rB text = nsR text 5 ((rA text).2.1 + 1) [] := by unfold rB; rw [hd9]; rfl
  have hlt9 : (rA text).2.1 < text.size := by unfold rDash at hd9; rw [Bool.and_eq_true, Bool.and_eq_true, decide_eq_true_eq] at hd9; exact hd9.1.2
  refine Zr ?_
  refine Xm ?_
  refine Xm ?_
  refine Xv rfl (v_addi (c := (((rA text).2.1 + 1 : Nat) : Int)) rfl rfl (by omega) (by omega)) ?_
  refine x_call (R := fun v wa wb => ∃ v2, v = .tuple #[v2, .int .i64 ((rB text).2.1 : Nat), .bool (rB text).2.2] ∧ sliceRd tyI (fun b => wa.heap.size ≤ b) wb v2 (rB text).1) rfl rfl rfl Tryz.func45 Zk rfl (fun w1 hw1 => (c_rNs text ((rA text).2.1 + 1) w1 hts (by omega)).mono fun e w2 ⟨v, h1, h2, h3⟩ => ⟨_, h1, h2, v, by rw [hB], by rw [hB]; exact h3⟩) fun v54 wa54 wb54 hm54 hl54 hR54 => ?_
  obtain ⟨v54_, rfl, hn54⟩ := hR54
  obtain ⟨A54, k54, rfl, _⟩ := id hn54
  refine Xm ?_
  refine Xv rfl (v_extract rfl rfl) ?_
  refine Xv rfl (v_extract rfl rfl) ?_
  refine Xb rfl (v_extract rfl rfl) fun b57 hb57 => ?_
  refine Xa ?_
  refine Xa ?_
  refine Xa ?_
  refine Ze (Zt (Zs (Zs (Zr ?_))))
  refine Xm ?_
  refine Xb rfl (v_not rfl) fun b59 hb59 => ?_
  refine Xm ?_
  refine Xg ?_
  refine Xg ?_
  refine Xi rfl rfl rfl (fun hg0 => by subst hg0; (try simp only [Qy]); exact v_len_str u9 rfl) ?_
  refine Xj rfl rfl rfl (fun hg0 => by subst hg0; (try simp only [Qy]); exact v_neq rfl rfl) fun b64 hb64 => ?_
  refine Xb rfl (v_or rfl rfl) fun b65 hb65 => ?_
  refine Ze (Zt ?_)
  refine w_cond rfl (fun hc65 => ?_) (fun hc65 => ?_)
  ·have hro : rOK text = false := by rw [rOK_eq, ← hb57, ← hb59, ← hb64, ← hb65, hc65]; rfl
   have hT : takeQ p es text day = (es, 11) := rT_form hro
   refine Zs (Zr ?_)
   refine Xa ?_
   refine Ze (Zt (w_ret (t_ret ?_)))
   refine ret1 rfl rfl (fun w' hm => ⟨R, by rw [hT], by rw [hT]; exact hR, ?_⟩)
   rw [hT]
   exact hm.less (by repeat (first | exact List.Sublist.refl _ | apply List.Sublist.cons)) (fun s hs => by repeat (first | exact hs | apply List.mem_cons_of_mem))
  have hro : rOK text = true := by rw [rOK_eq, ← hb57, ← hb59, ← hb64, ← hb65, hc65]; rfl
  refine w_skip (Zt (Zs (Zr ?_)))
  refine Xm ?_
  refine x_callb rfl rfl rfl Tryz.func46 Zk rfl (fun w1 hw1 => c_risDay day w1) fun b67 hb67 => ?_
  refine Xa ?_
  refine Ze (Zt (Zs (Zs (Zr ?_))))
  refine Xm ?_
  refine Xb rfl (v_not rfl) fun b69 hb69 => ?_
  refine Ze (Zt ?_)
  refine w_cond rfl (fun hc69 => ?_) (fun hc69 => ?_)
  ·have hT : takeQ p es text day = (es, 1) := rT_arg hro (fun h => by rw [hb69, hb67, decide_eq_true h] at hc69; cases hc69)
   refine Zs (Zr ?_)
   refine Xa ?_
   refine Ze (Zt (w_ret (t_ret ?_)))
   refine ret1 rfl rfl (fun w' hm => ⟨R, by rw [hT], by rw [hT]; exact hR, ?_⟩)
   rw [hT]
   exact hm.less (by repeat (first | exact List.Sublist.refl _ | apply List.Sublist.cons)) (fun s hs => by repeat (first | exact hs | apply List.mem_cons_of_mem))
  have hod : okDay day := by rw [hb69, hb67] at hc69; simpa using hc69
  refine w_skip (Zt (Zs (Zr ?_)))
  refine Xm ?_
  refine Xv rfl (v_nilCheck rfl) ?_
  refine Xv rfl (v_fieldAddr (off' := 0) u74 rfl sz26 (by decide) rfl rfl) ?_
  refine Xv rfl (v_loadN (vs := ([Value.int .i64 p.first, Value.int .i64 p.days, v1, v2, rowV R es.length]).take 4) u26 rfl sz26 rfl (fun j hj => at_ownL (vs := [Value.int .i64 p.first, Value.int .i64 p.days, v1, v2, rowV R es.length]) (.head _) (by match j, hj with | 0, _ | 1, _ | 2, _ | 3, _ => rfl))) ?_
  refine Xm ?_
  refine x_callv (v := Value.tuple #[.int .i64 ((numP p (rA text).1).getD 0), .bool (numP p (rA text).1).isSome]) rfl rfl rfl Tryz.func47 Zk rfl (fun w1 hw1 => c_rNumber p (rA text).1 w1 (hp w1 _ (hw1.less (List.Sublist.refl _) (fun s hs => by repeat (first | exact hs | apply List.mem_cons_of_mem)))) (keep_new hn32 hw1 Zh hm32)) ?_
  refine Xm ?_
  refine Xv rfl (v_extract rfl rfl) ?_
  refine Xb rfl (v_extract rfl rfl) fun b78 hb78 => ?_
  refine Xa ?_
  refine Xa ?_
  refine Ze (Zt (Zs (Zr ?_)))
  refine Xm ?_
  refine Xv rfl (v_nilCheck rfl) ?_
  refine Xv rfl (v_fieldAddr (off' := 0) u74 rfl sz26 (by decide) rfl rfl) ?_
  refine Xv rfl (v_loadN (vs := ([Value.int .i64 p.first, Value.int .i64 p.days, v1, v2, rowV R es.length]).take 4) u26 rfl sz26 rfl (fun j hj => at_ownL (vs := [Value.int .i64 p.first, Value.int .i64 p.days, v1, v2, rowV R es.length]) (.head _) (by match j, hj with | 0, _ | 1, _ | 2, _ | 3, _ => rfl))) ?_
  refine Xm ?_
  refine x_callv (v := Value.tuple #[.int .i64 ((numP p (rB text).1).getD 0), .bool (numP p (rB text).1).isSome]) rfl rfl rfl Tryz.func47 Zk rfl (fun w1 hw1 => c_rNumber p (rB text).1 w1 (hp w1 _ (hw1.less (List.Sublist.refl _) (fun s hs => by repeat (first | exact hs | apply List.mem_cons_of_mem)))) (keep_new hn54 hw1 Zh hm54)) ?_
  refine Xm ?_
  refine Xv rfl (v_extract rfl rfl) ?_
  refine Xb rfl (v_extract rfl rfl) fun b87 hb87 => ?_
  refine Xa ?_
  refine Xa ?_
  refine Ze (Zt ?_)
  refine w_seq_cut (σ := Ent) (fun x => (takeQ p es text day = if meets es x = true then (es, 22) else (insE es x, 0)) ∧ entOK x ∧ x.day = day ∧ x.sk = tkS text) (fun x => [(0, Value.pointer (some ⟨bs, 0, none⟩)), (2, Value.int .i64 x.day), (8, Value.bool x.sk), (13, Value.int .i64 x.fr), (15, Value.int .i64 x.to)]) (fun x => (bs, Obj.cells ([Value.int .i64 p.first, Value.int .i64 p.days, v1, v2, rowV R es.length]).toArray 74 (0, 0)) :: (rowO 91 R ++ l2)) (fun x => ro) ?_ ?_
  ·refine w_seq ?_
   refine Zr ?_
   refine Xm ?_
   refine Xb rfl (v_not rfl) fun b89 hb89 => ?_
   refine Xm ?_
   refine Xg ?_
   refine Xj rfl rfl rfl (fun hg0 => by subst hg0; (try simp only [Qy]); exact v_not rfl) fun b92 hb92 => ?_
   refine Xb rfl (v_or rfl rfl) fun b93 hb93 => ?_
   refine Xm ?_
   refine Xg ?_
   refine Xg ?_
   refine Xj rfl rfl rfl (fun hg0 => by subst hg0; (try simp only [Qy]); exact v_lss rfl rfl) fun b97 hb97 => ?_
   refine Xb rfl (v_or rfl rfl) fun b98 hb98 => ?_
   refine Xm ?_
   refine Xg ?_
   refine Xg ?_
   have r1 := numP_rng p (rA text).1
   have r2 := numP_rng p (rB text).1
   refine Xi rfl rfl rfl (fun hg0 => by subst hg0; (try simp only [Qy]); exact v_subi rfl rfl rfl Zo) ?_
   refine Xi rfl rfl rfl (fun hg0 => by subst hg0; (try simp only [Qy]); exact v_addi rfl rfl rfl Zo) ?_
   refine Xj rfl rfl rfl (fun hg0 => by subst hg0; (try simp only [Qy]); exact v_gtr rfl rfl) fun b104 hb104 => ?_
   refine Xb rfl (v_or rfl rfl) fun b105 hb105 => ?_
   refine Ze (Zt ?_)
   refine w_cond rfl (fun hc105 => ?_) (fun hc105 => ?_)
   ·have hT : takeQ p es text day = (es, 32) := rT_none hro hod (by
     have hc := hc105
     have r1 := numP_rng p (rA text).1
     have r2 := numP_rng p (rB text).1
     simp only [hb105, hb104, hb98, hb97, hb93, hb92, hb89, hb87, hb78, Bool.or_eq_true, Bool.not_eq_true', decide_eq_true_eq] at hc
     rcases hc with ((hc | hc) | hc) | hc
     ·exact .inl hc
     ·exact .inr (.inl hc)
     ·exact .inr (.inr (.inl hc))
     exact .inr (.inr (.inr (by omega))))
    refine Zs (Zr ?_)
    refine Xa ?_
    refine Ze (Zt (w_ret (t_ret ?_)))
    refine ret1 rfl rfl (fun w' hm => ⟨R, by rw [hT], by rw [hT]; exact hR, ?_⟩)
    rw [hT]
    exact hm.less (by repeat (first | exact List.Sublist.refl _ | apply List.Sublist.cons)) (fun s hs => by repeat (first | exact hs | apply List.mem_cons_of_mem))
   have hc := hc105
   simp only [hb105, hb104, hb98, hb97, hb93, hb92, hb89, hb87, hb78, Bool.or_eq_false_iff, Bool.not_eq_false', decide_eq_false_iff_not] at hc
   obtain ⟨⟨⟨h1, h2⟩, h3⟩, h4⟩ := hc
   have h9 := rT_some (p := p) (es := es) (text := text) hro hod h1 h2 h3 (by omega)
   refine w_skip ?_
   exact c_norm (⟨((numP p (rA text).1).getD 0), ((numP p (rB text).1).getD 0), tkS text, day⟩ : Ent) ⟨h9.2, h9.1, rfl, rfl⟩ Zu (fun w1 h => h.less (by repeat (first | exact List.Sublist.refl _ | apply List.Sublist.cons)) (fun s hs => by repeat (first | exact hs | apply List.mem_cons_of_mem)))
  rintro x ⟨hTx, hx, hxd, hxs⟩
  refine Zs (Zr ?_)
  refine Xa ?_
  refine Ze (Zt (Zs (Zs (Zr ?_))))
  refine Xa ?_
  refine Ze (Zt (w_block ?_))
  obtain ⟨e1, e2, e3, e4, e5⟩ := id hx
  have e6 := e5
  unfold okDay at e6
  refine w_loop (σ := Nat) (fun k => k ≤ es.length ∧ ∀ j (h : j < es.length), j < k → ¬(x.fr ≤ es[j].to ∧ es[j].fr ≤ x.to)) (fun k => [(0, .pointer (some ⟨bs, 0, none⟩)), (2, Value.int .i64 x.day), (8, Value.bool x.sk), (13, Value.int .i64 x.fr), (15, Value.int .i64 x.to), (17, Value.int .i64 (plc es x.fr k : Nat)), (18, Value.int .i64 (k : Nat))]) (fun k => (bs, Obj.cells ([Value.int .i64 p.first, Value.int .i64 p.days, v1, v2, rowV R es.length]).toArray 74 (0, 0)) :: (rowO 91 R ++ l2)) (fun k => ro) (fun k => es.length - k) (0) (⟨Nat.zero_le _, by intros; omega⟩) (l_start Zu (fun _ h => h)) ?_
  rintro k ⟨hk, hno⟩
  refine w_state ([(0, .pointer (some ⟨bs, 0, none⟩)), (2, Value.int .i64 x.day), (8, Value.bool x.sk), (13, Value.int .i64 x.fr), (15, Value.int .i64 x.to), (17, Value.int .i64 (plc es x.fr k : Nat)), (18, Value.int .i64 (k : Nat))]) ((bs, Obj.cells ([Value.int .i64 p.first, Value.int .i64 p.days, v1, v2, rowV R es.length]).toArray 74 (0, 0)) :: (rowO 91 R ++ l2)) (ro) ?_
  refine Zs (Zs (Zr ?_))
  refine Xm ?_
  refine Xm ?_
  refine Xv rfl (v_nilCheck rfl) ?_
  refine Xv rfl (v_fieldAddr (off' := 4) u74 rfl sz72 (by decide) rfl rfl) ?_
  refine Xv rfl (v_load u72 rfl rfl (at_ownL (vs := [Value.int .i64 p.first, Value.int .i64 p.days, v1, v2, rowV R es.length]) Zh rfl)) ?_
  refine Xv rfl (v_len_slice u72 rfl) ?_
  refine Xb rfl (v_lss rfl rfl) fun b112 hb112 => ?_
  refine Ze (Zt ?_)
  refine w_cond rfl (fun hc112 => ?_) (fun hc112 => ?_)
  ·simp only [hb112, Qz, ne_eq] at hc112
   have hkl : k < es.length := by omega
   obtain ⟨bg, csg, cpg, hge, _⟩ := hR.cell (j := 0) (by rw [entsC_len]; omega)
   refine w_skip (Zt (Zs (w_block (Zs (Zr ?_)))))
   refine Xm ?_
   refine Xv rfl (v_nilCheck rfl) ?_
   refine Xv rfl (v_fieldAddr (off' := 4) u74 rfl sz72 (by decide) rfl rfl) ?_
   refine Xv rfl (v_load u72 rfl rfl (at_ownL (vs := [Value.int .i64 p.first, Value.int .i64 p.days, v1, v2, rowV R es.length]) Zh rfl)) ?_
   refine Xm ?_
   refine Xv rfl (v_indexAddr u72 sz91 (congrArg (fun q => some (rowV q es.length)) hge) rfl Zo rfl) ?_
   refine Xv rfl (v_fieldAddr u91 rfl sz3 (by decide) rfl rfl) ?_
   refine Xv rfl (v_load u3 rfl rfl (at_ownL (vs := csg) (show (bg, Obj.cells csg.toArray 91 (0, 0)) ∈ _ by rw [hge]; simp [rowO]) (rowE_at (j := 1) (hge ▸ hR) rfl hkl (show 1 < 4 by decide)))) ?_
   refine Xm ?_
   refine Xb rfl (v_lss rfl rfl) fun b124 hb124 => ?_
   refine Ze (Zt ?_)
   refine w_cond rfl (fun hc124 => ?_) (fun hc124 => ?_)
   ·simp only [hb124, Qz, ne_eq] at hc124
    refine Zr ?_
    refine Xm ?_
    refine Xv rfl (v_addi rfl rfl rfl Zo) ?_
    refine Xa ?_
    refine Ze (b_norm (Zt (Zr ?_)))
    refine Xm ?_
    refine Xv rfl (v_addi rfl rfl rfl Zo) ?_
    refine Xa ?_
    refine Ze ?_
    exact l_norm (x := k) (μ := fun q : Nat => es.length - q) (k + 1) ⟨hkl, fun j hj hjk => by rcases Nat.lt_succ_iff_lt_or_eq.1 hjk with h3 | rfl; (· exact hno j hj h3); omega⟩ (by omega) (by (try dsimp only); rw [plc_yes hkl (by omega)]; exact Zu) (fun _ h => h)
   simp only [hb124, Qz, ne_eq] at hc124
   refine Zs (Zr ?_)
   refine Xm ?_
   refine Xv rfl (v_nilCheck rfl) ?_
   refine Xv rfl (v_fieldAddr (off' := 4) u74 rfl sz72 (by decide) rfl rfl) ?_
   refine Xv rfl (v_load u72 rfl rfl (at_ownL (vs := [Value.int .i64 p.first, Value.int .i64 p.days, v1, v2, rowV R es.length]) Zh rfl)) ?_
   refine Xm ?_
   refine Xv rfl (v_indexAddr u72 sz91 (congrArg (fun q => some (rowV q es.length)) hge) rfl Zo rfl) ?_
   refine Xv rfl (v_fieldAddr u91 rfl sz3 (by decide) rfl rfl) ?_
   refine Xv rfl (v_load u3 rfl rfl (at_ownL (vs := csg) (show (bg, Obj.cells csg.toArray 91 (0, 0)) ∈ _ by rw [hge]; simp [rowO]) (rowE_at (j := 0) (hge ▸ hR) rfl hkl (show 0 < 4 by decide)))) ?_
   refine Xm ?_
   refine Xb rfl (v_leq rfl rfl) fun b136 hb136 => ?_
   refine Ze (Zt ?_)
   refine w_cond rfl (fun hc136 => ?_) (fun hc136 => ?_)
   ·simp only [hb136, Qz, ne_eq] at hc136
    have hT : takeQ p es text day = (es, 22) := by rw [hTx, if_pos (meets_yes ⟨es[k], List.getElem_mem hkl, by omega, by omega⟩)]
    refine Zs (Zr ?_)
    refine Xa ?_
    refine Ze (Zt (w_ret (b_ret (t_ret (t_ret (b_ret (t_ret ?_)))))))
    refine ret1 rfl rfl (fun w' hm => ⟨R, by rw [hT], by rw [hT]; exact hR, ?_⟩)
    rw [hT]
    exact hm.less (by repeat (first | exact List.Sublist.refl _ | apply List.Sublist.cons)) (fun s hs => by repeat (first | exact hs | apply List.mem_cons_of_mem))
   simp only [hb136, Qz, ne_eq] at hc136
   refine w_skip (b_norm (Zt (Zr ?_)))
   refine Xm ?_
   refine Xv rfl (v_addi rfl rfl rfl Zo) ?_
   refine Xa ?_
   refine Ze ?_
   exact l_norm (x := k) (μ := fun q : Nat => es.length - q) (k + 1) ⟨hkl, fun j hj hjk => by rcases Nat.lt_succ_iff_lt_or_eq.1 hjk with h3 | rfl; (· exact hno j hj h3); omega⟩ (by omega) (by (try dsimp only); rw [plc_no hkl (by omega)]; exact Zu) (fun _ h => h)
  simp only [hb112, Qz, ne_eq] at hc112
  obtain rfl : k = es.length := by omega
  have hmt : meets es x = false := meets_iff.2 (fun j hj => hno j hj hj)
  have hT : takeQ p es text day = (insE es x, 0) := by rw [hTx, hmt]; rfl
  obtain ⟨m, hm9⟩ : ∃ m, plc es x.fr es.length = m := ⟨_, rfl⟩
  have hml : m ≤ es.length := hm9 ▸ plc_le es x.fr _
  have hins := plc_ins hsrt hx hmt
  rw [hm9] at hins
  have hcap := hR.cap
  refine w_exit ?_
  refine t_exit ?_
  refine t_exit ?_
  refine b_hit ?_
  refine Zt (Zs (Zr ?_))
  refine Xa ?_
  refine Ze (Zt (Zs (Zr ?_)))
  refine Xm ?_
  refine Xm ?_
  refine Xv rfl (v_nilCheck rfl) ?_
  refine Xv rfl (v_fieldAddr (off' := 4) u74 rfl sz72 (by decide) rfl rfl) ?_
  refine Xv rfl (v_load u72 rfl rfl (at_ownL (vs := [Value.int .i64 p.first, Value.int .i64 p.days, v1, v2, rowV R es.length]) Zh rfl)) ?_
  refine Xv (v := Value.int .i64 (m : Nat)) rfl (by rw [← hm9]; exact v_move rfl) ?_
  refine Xv rfl (v_scut_to (j := m) u72 sz91 rfl rfl (by omega)) ?_
  refine x_append_any (e := 91) (ao := rowA R) (c2 := rowC R) (m := m) (news := entsC (es.take m)) ((bs, Obj.cells ([Value.int .i64 p.first, Value.int .i64 p.days, v1, v2, rowV R es.length]).toArray 74 (0, 0)) :: (rowO 91 R ++ l2)) (l2 := []) none (len := 0) (xs := []) rfl rfl rfl rfl (by simp [rowO]) rowOK_nil u72 ap91 rfl (by rw [entsC_len, List.length_take, Nat.min_eq_left hml]) (fun h => by have := row_none hR h; omega) (fun w1 hw1 a ha j u hu => row_head (e := 91) hR hw1 (fun q hq => List.mem_cons_of_mem _ (List.mem_append_left _ hq)) ha hu) (entsC_one _) Zx (by omega) fun R1 hR1 => ?_
  rw [List.nil_append] at hR1
  rw [show 0 + m = m from Nat.zero_add m] at hR1 ⊢
  refine Xa ?_
  refine Ze (Zt (Zs (Zr ?_)))
  refine Xm ?_
  refine Xm ?_
  refine Xm ?_
  refine Xm ?_
  refine Xm ?_
  refine Xv (v := Value.agg (entC x).toArray) rfl (v_buildL (places := [(0, 1), (1, 1), (2, 1), (3, 1)]) u91 zr91 Zk rfl rfl) ?_
  refine x_buildSliceL (cs := entC x) rfl rfl rfl u72 sz91 zr91 rfl rfl rfl ?_
  intro p151
  refine x_append (e := 91) ((p151, Obj.cells (entC x).toArray 91 (0, 0)) :: ((bs, Obj.cells ([Value.int .i64 p.first, Value.int .i64 p.days, v1, v2, rowV R es.length]).toArray 74 (0, 0)) :: (rowO 91 R ++ l2))) (l2 := []) R1 (len := m) (xs := entsC (es.take m)) rfl rfl rfl rfl (by simp [List.append_assoc]) hR1 u72 ap91 rfl rfl (m := 1) (news := entC x) (fun j hj => at_ownL (vs := entC x) (.head _) (by rw [Nat.zero_add]; exact List.getElem?_eq_getElem hj)) rfl Zx (by omega) fun R2 hR2 => ?_
  refine Xa ?_
  refine Ze (Zt (Zs (Zr ?_)))
  refine Xm ?_
  refine Xm ?_
  refine Xm ?_
  refine Xv rfl (v_nilCheck rfl) ?_
  refine Xv rfl (v_fieldAddr (off' := 4) u74 rfl sz72 (by decide) rfl rfl) ?_
  refine Xv rfl (v_load u72 rfl rfl (at_ownL (vs := [Value.int .i64 p.first, Value.int .i64 p.days, v1, v2, rowV R es.length]) Zh rfl)) ?_
  refine Xv (v := Value.int .i64 (m : Nat)) rfl (by rw [← hm9]; exact v_move rfl) ?_
  refine Xv rfl (v_scut_from (i := m) u72 sz91 rfl rfl hml (by omega)) ?_
  refine x_append_any (e := 91) (ao := if rowC R = m then rowA R else (rowA R).map (fun a => a.add (m * 4))) (m := es.length - m) (news := entsC (es.drop m)) ((p151, Obj.cells (entC x).toArray 91 (0, 0)) :: ((bs, Obj.cells ([Value.int .i64 p.first, Value.int .i64 p.days, v1, v2, rowV R es.length]).toArray 74 (0, 0)) :: (rowO 91 R ++ l2))) (l2 := []) R2 (len := m + 1) (xs := entsC (es.take m) ++ entC x) rfl rfl rfl rfl (by simp [List.append_assoc]) hR2 u72 ap91 rfl (by rw [entsC_len, List.length_drop]) (fun h => by split at h; (· omega); rw [Option.map_eq_none_iff] at h; have := row_none hR h; omega) (fun w1 hw1 a ha j u hu => row_tail (e := 91) hR hw1 (fun q hq => by simp [hq]) hml ha hu) (entsC_one _) Zx (by omega) fun R3 hR3 => ?_
  have e9 : m + 1 + (es.length - m) = es.length + 1 := by omega
  rw [e9] at hR3 ⊢
  refine Xv rfl (v_nilCheck rfl) ?_
  refine Xv rfl (v_fieldAddr (off' := 4) u74 rfl sz72 (by decide) rfl rfl) ?_
  refine x_store (cs := [Value.int .i64 p.first, Value.int .i64 p.days, v1, v2, rowV R es.length]) (off := 4) (e := 74) (l2 := rowO 91 R ++ l2 ++ rowO 91 R3) [(p151, Obj.cells (entC x).toArray 91 (0, 0))] rfl rfl rfl (by simp [List.append_assoc]) sz72 rfl (by show 5 ≤ 5; decide) ?_
  refine Ze (Zt (Zs (Zr ?_)))
  refine Xa ?_
  refine Ze (Zt (w_ret ?_))
  have h8 : rowOK 4 R3 (insE es x).length (entsC (insE es x)) := by rw [insE_len, ← hins, entsC_app]; have e8 : entsC (x :: es.drop m) = entC x ++ entsC (es.drop m) := rfl; rw [e8, ← List.append_assoc]; exact hR3
  refine ret1 rfl rfl (fun w' hm => ⟨R3, by rw [hT], by rw [hT]; exact h8, ?_⟩)
  rw [hT]
  show Mem w' ((bs, Obj.cells ([Value.int .i64 p.first, Value.int .i64 p.days, v1, v2, rowV R3 (insE es x).length]).toArray 74 (0, 0)) :: (rowO 91 R3 ++ l2)) ro
  rw [insE_len]
  have hm1 := hm.less (own' := (bs, Obj.cells ([Value.int .i64 p.first, Value.int .i64 p.days, v1, v2, rowV R3 (es.length + 1)]).toArray 74 (0, 0)) :: (l2 ++ rowO 91 R3)) (by
   show List.Sublist _ (_ :: _ :: _)
   refine List.Sublist.cons _ (List.Sublist.cons_cons _ ?_)
   exact (List.sublist_append_right _ _).append (List.Sublist.refl _)) (fun _ h => h)
  exact hm1.perm (List.Perm.cons _ List.perm_append_comm)
 have hd9 : rDash text = false := by rw [rDash_eq, ← hc49, hb49, hb48, hb43, hb42, hb35]
 have hB : rB text = rA text := by unfold rB; rw [hd9]; rfl
 refine w_skip (Zt (Zs (Zs (Zr ?_))))
 refine Xm ?_
 refine Xb rfl (v_not rfl) fun b59 hb59 => ?_
 refine Xm ?_
 refine Xg ?_
 refine Xg ?_
 refine Xi rfl rfl rfl (fun hg0 => by subst hg0; (try simp only [Qy]); exact v_len_str u9 rfl) ?_
 refine Xj rfl rfl rfl (fun hg0 => by subst hg0; (try simp only [Qy]); exact v_neq rfl rfl) fun b64 hb64 => ?_
 refine Xb rfl (v_or rfl rfl) fun b65 hb65 => ?_
 refine Ze (Zt ?_)
 refine w_cond rfl (fun hc65 => ?_) (fun hc65 => ?_)
 ·have hro : rOK text = false := by rw [rOK_eq, hB, ← hb35, ← hb59, ← hb64, ← hb65, hc65]; rfl
  have hT : takeQ p es text day = (es, 11) := rT_form hro
  refine Zs (Zr ?_)
  refine Xa ?_
  refine Ze (Zt (w_ret (t_ret ?_)))
  refine ret1 rfl rfl (fun w' hm => ⟨R, by rw [hT], by rw [hT]; exact hR, ?_⟩)
  rw [hT]
  exact hm.less (by repeat (first | exact List.Sublist.refl _ | apply List.Sublist.cons)) (fun s hs => by repeat (first | exact hs | apply List.mem_cons_of_mem))
 have hro : rOK text = true := by rw [rOK_eq, hB, ← hb35, ← hb59, ← hb64, ← hb65, hc65]; rfl
 refine w_skip (Zt (Zs (Zr ?_)))
 refine Xm ?_
 refine x_callb rfl rfl rfl Tryz.func46 Zk rfl (fun w1 hw1 => c_risDay day w1) fun b67 hb67 => ?_
 refine Xa ?_
 refine Ze (Zt (Zs (Zs (Zr ?_))))
 refine Xm ?_
 refine Xb rfl (v_not rfl) fun b69 hb69 => ?_
 refine Ze (Zt ?_)
 refine w_cond rfl (fun hc69 => ?_) (fun hc69 => ?_)
 ·have hT : takeQ p es text day = (es, 1) := rT_arg hro (fun h => by rw [hb69, hb67, decide_eq_true h] at hc69; cases hc69)
  refine Zs (Zr ?_)
  refine Xa ?_
  refine Ze (Zt (w_ret (t_ret ?_)))
  refine ret1 rfl rfl (fun w' hm => ⟨R, by rw [hT], by rw [hT]; exact hR, ?_⟩)
  rw [hT]
  exact hm.less (by repeat (first | exact List.Sublist.refl _ | apply List.Sublist.cons)) (fun s hs => by repeat (first | exact hs | apply List.mem_cons_of_mem))
 have hod : okDay day := by rw [hb69, hb67] at hc69; simpa using hc69
 refine w_skip (Zt (Zs (Zr ?_)))
 refine Xm ?_
 refine Xv rfl (v_nilCheck rfl) ?_
 refine Xv rfl (v_fieldAddr (off' := 0) u74 rfl sz26 (by decide) rfl rfl) ?_
 refine Xv rfl (v_loadN (vs := ([Value.int .i64 p.first, Value.int .i64 p.days, v1, v2, rowV R es.length]).take 4) u26 rfl sz26 rfl (fun j hj => at_ownL (vs := [Value.int .i64 p.first, Value.int .i64 p.days, v1, v2, rowV R es.length]) (.head _) (by match j, hj with | 0, _ | 1, _ | 2, _ | 3, _ => rfl))) ?_
 refine Xm ?_
 refine x_callv (v := Value.tuple #[.int .i64 ((numP p (rA text).1).getD 0), .bool (numP p (rA text).1).isSome]) rfl rfl rfl Tryz.func47 Zk rfl (fun w1 hw1 => c_rNumber p (rA text).1 w1 (hp w1 _ (hw1.less (List.Sublist.refl _) (fun s hs => by repeat (first | exact hs | apply List.mem_cons_of_mem)))) (keep_new hn32 hw1 Zh hm32)) ?_
 refine Xm ?_
 refine Xv rfl (v_extract rfl rfl) ?_
 refine Xb rfl (v_extract rfl rfl) fun b78 hb78 => ?_
 refine Xa ?_
 refine Xa ?_
 refine Ze (Zt (Zs (Zr ?_)))
 refine Xm ?_
 refine Xv rfl (v_nilCheck rfl) ?_
 refine Xv rfl (v_fieldAddr (off' := 0) u74 rfl sz26 (by decide) rfl rfl) ?_
 refine Xv rfl (v_loadN (vs := ([Value.int .i64 p.first, Value.int .i64 p.days, v1, v2, rowV R es.length]).take 4) u26 rfl sz26 rfl (fun j hj => at_ownL (vs := [Value.int .i64 p.first, Value.int .i64 p.days, v1, v2, rowV R es.length]) (.head _) (by match j, hj with | 0, _ | 1, _ | 2, _ | 3, _ => rfl))) ?_
 refine Xm ?_
 refine x_callv (v := Value.tuple #[.int .i64 ((numP p (rB text).1).getD 0), .bool (numP p (rB text).1).isSome]) rfl rfl rfl Tryz.func47 Zk rfl (fun w1 hw1 => by
  rw [hB]
  exact c_rNumber p (rA text).1 w1 (hp w1 _ (hw1.less (List.Sublist.refl _) (fun s hs => by repeat (first | exact hs | apply List.mem_cons_of_mem)))) (keep_new hn32 hw1 Zh hm32)) ?_
 refine Xm ?_
 refine Xv rfl (v_extract rfl rfl) ?_
 refine Xb rfl (v_extract rfl rfl) fun b87 hb87 => ?_
 refine Xa ?_
 refine Xa ?_
 refine Ze (Zt ?_)
 refine w_seq_cut (σ := Ent) (fun x => (takeQ p es text day = if meets es x = true then (es, 22) else (insE es x, 0)) ∧ entOK x ∧ x.day = day ∧ x.sk = tkS text) (fun x => [(0, Value.pointer (some ⟨bs, 0, none⟩)), (2, Value.int .i64 x.day), (8, Value.bool x.sk), (13, Value.int .i64 x.fr), (15, Value.int .i64 x.to)]) (fun x => (bs, Obj.cells ([Value.int .i64 p.first, Value.int .i64 p.days, v1, v2, rowV R es.length]).toArray 74 (0, 0)) :: (rowO 91 R ++ l2)) (fun x => ro) ?_ ?_
 ·refine w_seq ?_
  refine Zr ?_
  refine Xm ?_
  refine Xb rfl (v_not rfl) fun b89 hb89 => ?_
  refine Xm ?_
  refine Xg ?_
  refine Xj rfl rfl rfl (fun hg0 => by subst hg0; (try simp only [Qy]); exact v_not rfl) fun b92 hb92 => ?_
  refine Xb rfl (v_or rfl rfl) fun b93 hb93 => ?_
  refine Xm ?_
  refine Xg ?_
  refine Xg ?_
  refine Xj rfl rfl rfl (fun hg0 => by subst hg0; (try simp only [Qy]); exact v_lss rfl rfl) fun b97 hb97 => ?_
  refine Xb rfl (v_or rfl rfl) fun b98 hb98 => ?_
  refine Xm ?_
  refine Xg ?_
  refine Xg ?_
  have r1 := numP_rng p (rA text).1
  have r2 := numP_rng p (rB text).1
  refine Xi rfl rfl rfl (fun hg0 => by subst hg0; (try simp only [Qy]); exact v_subi rfl rfl rfl Zo) ?_
  refine Xi rfl rfl rfl (fun hg0 => by subst hg0; (try simp only [Qy]); exact v_addi rfl rfl rfl Zo) ?_
  refine Xj rfl rfl rfl (fun hg0 => by subst hg0; (try simp only [Qy]); exact v_gtr rfl rfl) fun b104 hb104 => ?_
  refine Xb rfl (v_or rfl rfl) fun b105 hb105 => ?_
  refine Ze (Zt ?_)
  refine w_cond rfl (fun hc105 => ?_) (fun hc105 => ?_)
  ·have hT : takeQ p es text day = (es, 32) := rT_none hro hod (by
    have hc := hc105
    have r1 := numP_rng p (rA text).1
    have r2 := numP_rng p (rB text).1
    simp only [hb105, hb104, hb98, hb97, hb93, hb92, hb89, hb87, hb78, Bool.or_eq_true, Bool.not_eq_true', decide_eq_true_eq] at hc
    rcases hc with ((hc | hc) | hc) | hc
    ·exact .inl hc
    ·exact .inr (.inl hc)
    ·exact .inr (.inr (.inl hc))
    exact .inr (.inr (.inr (by omega))))
   refine Zs (Zr ?_)
   refine Xa ?_
   refine Ze (Zt (w_ret (t_ret ?_)))
   refine ret1 rfl rfl (fun w' hm => ⟨R, by rw [hT], by rw [hT]; exact hR, ?_⟩)
   rw [hT]
   exact hm.less (by repeat (first | exact List.Sublist.refl _ | apply List.Sublist.cons)) (fun s hs => by repeat (first | exact hs | apply List.mem_cons_of_mem))
  have hc := hc105
  simp only [hb105, hb104, hb98, hb97, hb93, hb92, hb89, hb87, hb78, Bool.or_eq_false_iff, Bool.not_eq_false', decide_eq_false_iff_not] at hc
  obtain ⟨⟨⟨h1, h2⟩, h3⟩, h4⟩ := hc
  have h9 := rT_some (p := p) (es := es) (text := text) hro hod h1 h2 h3 (by omega)
  refine w_skip ?_
  exact c_norm (⟨((numP p (rA text).1).getD 0), ((numP p (rB text).1).getD 0), tkS text, day⟩ : Ent) ⟨h9.2, h9.1, rfl, rfl⟩ Zu (fun w1 h => h.less (by repeat (first | exact List.Sublist.refl _ | apply List.Sublist.cons)) (fun s hs => by repeat (first | exact hs | apply List.mem_cons_of_mem)))
 rintro x ⟨hTx, hx, hxd, hxs⟩
 refine Zs (Zr ?_)
 refine Xa ?_
 refine Ze (Zt (Zs (Zs (Zr ?_))))
 refine Xa ?_
 refine Ze (Zt (w_block ?_))
 obtain ⟨e1, e2, e3, e4, e5⟩ := id hx
 have e6 := e5
 unfold okDay at e6
 refine w_loop (σ := Nat) (fun k => k ≤ es.length ∧ ∀ j (h : j < es.length), j < k → ¬(x.fr ≤ es[j].to ∧ es[j].fr ≤ x.to)) (fun k => [(0, .pointer (some ⟨bs, 0, none⟩)), (2, Value.int .i64 x.day), (8, Value.bool x.sk), (13, Value.int .i64 x.fr), (15, Value.int .i64 x.to), (17, Value.int .i64 (plc es x.fr k : Nat)), (18, Value.int .i64 (k : Nat))]) (fun k => (bs, Obj.cells ([Value.int .i64 p.first, Value.int .i64 p.days, v1, v2, rowV R es.length]).toArray 74 (0, 0)) :: (rowO 91 R ++ l2)) (fun k => ro) (fun k => es.length - k) (0) (⟨Nat.zero_le _, by intros; omega⟩) (l_start Zu (fun _ h => h)) ?_
 rintro k ⟨hk, hno⟩
 refine w_state ([(0, .pointer (some ⟨bs, 0, none⟩)), (2, Value.int .i64 x.day), (8, Value.bool x.sk), (13, Value.int .i64 x.fr), (15, Value.int .i64 x.to), (17, Value.int .i64 (plc es x.fr k : Nat)), (18, Value.int .i64 (k : Nat))]) ((bs, Obj.cells ([Value.int .i64 p.first, Value.int .i64 p.days, v1, v2, rowV R es.length]).toArray 74 (0, 0)) :: (rowO 91 R ++ l2)) (ro) ?_
 refine Zs (Zs (Zr ?_))
 refine Xm ?_
 refine Xm ?_
 refine Xv rfl (v_nilCheck rfl) ?_
 refine Xv rfl (v_fieldAddr (off' := 4) u74 rfl sz72 (by decide) rfl rfl) ?_
 refine Xv rfl (v_load u72 rfl rfl (at_ownL (vs := [Value.int .i64 p.first, Value.int .i64 p.days, v1, v2, rowV R es.length]) Zh rfl)) ?_
 refine Xv rfl (v_len_slice u72 rfl) ?_
 refine Xb rfl (v_lss rfl rfl) fun b112 hb112 => ?_
 refine Ze (Zt ?_)
 refine w_cond rfl (fun hc112 => ?_) (fun hc112 => ?_)
 ·simp only [hb112, Qz, ne_eq] at hc112
  have hkl : k < es.length := by omega
  obtain ⟨bg, csg, cpg, hge, _⟩ := hR.cell (j := 0) (by rw [entsC_len]; omega)
  refine w_skip (Zt (Zs (w_block (Zs (Zr ?_)))))
  refine Xm ?_
  refine Xv rfl (v_nilCheck rfl) ?_
  refine Xv rfl (v_fieldAddr (off' := 4) u74 rfl sz72 (by decide) rfl rfl) ?_
  refine Xv rfl (v_load u72 rfl rfl (at_ownL (vs := [Value.int .i64 p.first, Value.int .i64 p.days, v1, v2, rowV R es.length]) Zh rfl)) ?_
  refine Xm ?_
  refine Xv rfl (v_indexAddr u72 sz91 (congrArg (fun q => some (rowV q es.length)) hge) rfl Zo rfl) ?_
  refine Xv rfl (v_fieldAddr u91 rfl sz3 (by decide) rfl rfl) ?_
  refine Xv rfl (v_load u3 rfl rfl (at_ownL (vs := csg) (show (bg, Obj.cells csg.toArray 91 (0, 0)) ∈ _ by rw [hge]; simp [rowO]) (rowE_at (j := 1) (hge ▸ hR) rfl hkl (show 1 < 4 by decide)))) ?_
  refine Xm ?_
  refine Xb rfl (v_lss rfl rfl) fun b124 hb124 => ?_
  refine Ze (Zt ?_)
  refine w_cond rfl (fun hc124 => ?_) (fun hc124 => ?_)
  ·simp only [hb124, Qz, ne_eq] at hc124
   refine Zr ?_
   refine Xm ?_
   refine Xv rfl (v_addi rfl rfl rfl Zo) ?_
   refine Xa ?_
   refine Ze (b_norm (Zt (Zr ?_)))
   refine Xm ?_
   refine Xv rfl (v_addi rfl rfl rfl Zo) ?_
   refine Xa ?_
   refine Ze ?_
   exact l_norm (x := k) (μ := fun q : Nat => es.length - q) (k + 1) ⟨hkl, fun j hj hjk => by rcases Nat.lt_succ_iff_lt_or_eq.1 hjk with h3 | rfl; (· exact hno j hj h3); omega⟩ (by omega) (by (try dsimp only); rw [plc_yes hkl (by omega)]; exact Zu) (fun _ h => h)
  simp only [hb124, Qz, ne_eq] at hc124
  refine Zs (Zr ?_)
  refine Xm ?_
  refine Xv rfl (v_nilCheck rfl) ?_
  refine Xv rfl (v_fieldAddr (off' := 4) u74 rfl sz72 (by decide) rfl rfl) ?_
  refine Xv rfl (v_load u72 rfl rfl (at_ownL (vs := [Value.int .i64 p.first, Value.int .i64 p.days, v1, v2, rowV R es.length]) Zh rfl)) ?_
  refine Xm ?_
  refine Xv rfl (v_indexAddr u72 sz91 (congrArg (fun q => some (rowV q es.length)) hge) rfl Zo rfl) ?_
  refine Xv rfl (v_fieldAddr u91 rfl sz3 (by decide) rfl rfl) ?_
  refine Xv rfl (v_load u3 rfl rfl (at_ownL (vs := csg) (show (bg, Obj.cells csg.toArray 91 (0, 0)) ∈ _ by rw [hge]; simp [rowO]) (rowE_at (j := 0) (hge ▸ hR) rfl hkl (show 0 < 4 by decide)))) ?_
  refine Xm ?_
  refine Xb rfl (v_leq rfl rfl) fun b136 hb136 => ?_
  refine Ze (Zt ?_)
  refine w_cond rfl (fun hc136 => ?_) (fun hc136 => ?_)
  ·simp only [hb136, Qz, ne_eq] at hc136
   have hT : takeQ p es text day = (es, 22) := by rw [hTx, if_pos (meets_yes ⟨es[k], List.getElem_mem hkl, by omega, by omega⟩)]
   refine Zs (Zr ?_)
   refine Xa ?_
   refine Ze (Zt (w_ret (b_ret (t_ret (t_ret (b_ret (t_ret ?_)))))))
   refine ret1 rfl rfl (fun w' hm => ⟨R, by rw [hT], by rw [hT]; exact hR, ?_⟩)
   rw [hT]
   exact hm.less (by repeat (first | exact List.Sublist.refl _ | apply List.Sublist.cons)) (fun s hs => by repeat (first | exact hs | apply List.mem_cons_of_mem))
  simp only [hb136, Qz, ne_eq] at hc136
  refine w_skip (b_norm (Zt (Zr ?_)))
  refine Xm ?_
  refine Xv rfl (v_addi rfl rfl rfl Zo) ?_
  refine Xa ?_
  refine Ze ?_
  exact l_norm (x := k) (μ := fun q : Nat => es.length - q) (k + 1) ⟨hkl, fun j hj hjk => by rcases Nat.lt_succ_iff_lt_or_eq.1 hjk with h3 | rfl; (· exact hno j hj h3); omega⟩ (by omega) (by (try dsimp only); rw [plc_no hkl (by omega)]; exact Zu) (fun _ h => h)
 simp only [hb112, Qz, ne_eq] at hc112
 obtain rfl : k = es.length := by omega
 have hmt : meets es x = false := meets_iff.2 (fun j hj => hno j hj hj)
 have hT : takeQ p es text day = (insE es x, 0) := by rw [hTx, hmt]; rfl
 obtain ⟨m, hm9⟩ : ∃ m, plc es x.fr es.length = m := ⟨_, rfl⟩
 have hml : m ≤ es.length := hm9 ▸ plc_le es x.fr _
 have hins := plc_ins hsrt hx hmt
 rw [hm9] at hins
 have hcap := hR.cap
 refine w_exit ?_
 refine t_exit ?_
 refine t_exit ?_
 refine b_hit ?_
 refine Zt (Zs (Zr ?_))
 refine Xa ?_
 refine Ze (Zt (Zs (Zr ?_)))
 refine Xm ?_
 refine Xm ?_
 refine Xv rfl (v_nilCheck rfl) ?_
 refine Xv rfl (v_fieldAddr (off' := 4) u74 rfl sz72 (by decide) rfl rfl) ?_
 refine Xv rfl (v_load u72 rfl rfl (at_ownL (vs := [Value.int .i64 p.first, Value.int .i64 p.days, v1, v2, rowV R es.length]) Zh rfl)) ?_
 refine Xv (v := Value.int .i64 (m : Nat)) rfl (by rw [← hm9]; exact v_move rfl) ?_
 refine Xv rfl (v_scut_to (j := m) u72 sz91 rfl rfl (by omega)) ?_
 refine x_append_any (e := 91) (ao := rowA R) (c2 := rowC R) (m := m) (news := entsC (es.take m)) ((bs, Obj.cells ([Value.int .i64 p.first, Value.int .i64 p.days, v1, v2, rowV R es.length]).toArray 74 (0, 0)) :: (rowO 91 R ++ l2)) (l2 := []) none (len := 0) (xs := []) rfl rfl rfl rfl (by simp [rowO]) rowOK_nil u72 ap91 rfl (by rw [entsC_len, List.length_take, Nat.min_eq_left hml]) (fun h => by have := row_none hR h; omega) (fun w1 hw1 a ha j u hu => row_head (e := 91) hR hw1 (fun q hq => List.mem_cons_of_mem _ (List.mem_append_left _ hq)) ha hu) (entsC_one _) Zx (by omega) fun R1 hR1 => ?_
 rw [List.nil_append] at hR1
 rw [show 0 + m = m from Nat.zero_add m] at hR1 ⊢
 refine Xa ?_
 refine Ze (Zt (Zs (Zr ?_)))
 refine Xm ?_
 refine Xm ?_
 refine Xm ?_
 refine Xm ?_
 refine Xm ?_
 refine Xv (v := Value.agg (entC x).toArray) rfl (v_buildL (places := [(0, 1), (1, 1), (2, 1), (3, 1)]) u91 zr91 Zk rfl rfl) ?_
 refine x_buildSliceL (cs := entC x) rfl rfl rfl u72 sz91 zr91 rfl rfl rfl ?_
 intro p151
 refine x_append (e := 91) ((p151, Obj.cells (entC x).toArray 91 (0, 0)) :: ((bs, Obj.cells ([Value.int .i64 p.first, Value.int .i64 p.days, v1, v2, rowV R es.length]).toArray 74 (0, 0)) :: (rowO 91 R ++ l2))) (l2 := []) R1 (len := m) (xs := entsC (es.take m)) rfl rfl rfl rfl (by simp [List.append_assoc]) hR1 u72 ap91 rfl rfl (m := 1) (news := entC x) (fun j hj => at_ownL (vs := entC x) (.head _) (by rw [Nat.zero_add]; exact List.getElem?_eq_getElem hj)) rfl Zx (by omega) fun R2 hR2 => ?_
 refine Xa ?_
 refine Ze (Zt (Zs (Zr ?_)))
 refine Xm ?_
 refine Xm ?_
 refine Xm ?_
 refine Xv rfl (v_nilCheck rfl) ?_
 refine Xv rfl (v_fieldAddr (off' := 4) u74 rfl sz72 (by decide) rfl rfl) ?_
 refine Xv rfl (v_load u72 rfl rfl (at_ownL (vs := [Value.int .i64 p.first, Value.int .i64 p.days, v1, v2, rowV R es.length]) Zh rfl)) ?_
 refine Xv (v := Value.int .i64 (m : Nat)) rfl (by rw [← hm9]; exact v_move rfl) ?_
 refine Xv rfl (v_scut_from (i := m) u72 sz91 rfl rfl hml (by omega)) ?_
 refine x_append_any (e := 91) (ao := if rowC R = m then rowA R else (rowA R).map (fun a => a.add (m * 4))) (m := es.length - m) (news := entsC (es.drop m)) ((p151, Obj.cells (entC x).toArray 91 (0, 0)) :: ((bs, Obj.cells ([Value.int .i64 p.first, Value.int .i64 p.days, v1, v2, rowV R es.length]).toArray 74 (0, 0)) :: (rowO 91 R ++ l2))) (l2 := []) R2 (len := m + 1) (xs := entsC (es.take m) ++ entC x) rfl rfl rfl rfl (by simp [List.append_assoc]) hR2 u72 ap91 rfl (by rw [entsC_len, List.length_drop]) (fun h => by split at h; (· omega); rw [Option.map_eq_none_iff] at h; have := row_none hR h; omega) (fun w1 hw1 a ha j u hu => row_tail (e := 91) hR hw1 (fun q hq => by simp [hq]) hml ha hu) (entsC_one _) Zx (by omega) fun R3 hR3 => ?_
 have e9 : m + 1 + (es.length - m) = es.length + 1 := by omega
 rw [e9] at hR3 ⊢
 refine Xv rfl (v_nilCheck rfl) ?_
 refine Xv rfl (v_fieldAddr (off' := 4) u74 rfl sz72 (by decide) rfl rfl) ?_
 refine x_store (cs := [Value.int .i64 p.first, Value.int .i64 p.days, v1, v2, rowV R es.length]) (off := 4) (e := 74) (l2 := rowO 91 R ++ l2 ++ rowO 91 R3) [(p151, Obj.cells (entC x).toArray 91 (0, 0))] rfl rfl rfl (by simp [List.append_assoc]) sz72 rfl (by show 5 ≤ 5; decide) ?_
 refine Ze (Zt (Zs (Zr ?_)))
 refine Xa ?_
 refine Ze (Zt (w_ret ?_))
 have h8 : rowOK 4 R3 (insE es x).length (entsC (insE es x)) := by rw [insE_len, ← hins, entsC_app]; have e8 : entsC (x :: es.drop m) = entC x ++ entsC (es.drop m) := rfl; rw [e8, ← List.append_assoc]; exact hR3
 refine ret1 rfl rfl (fun w' hm => ⟨R3, by rw [hT], by rw [hT]; exact h8, ?_⟩)
 rw [hT]
 show Mem w' ((bs, Obj.cells ([Value.int .i64 p.first, Value.int .i64 p.days, v1, v2, rowV R3 (insE es x).length]).toArray 74 (0, 0)) :: (rowO 91 R3 ++ l2)) ro
 rw [insE_len]
 have hm1 := hm.less (own' := (bs, Obj.cells ([Value.int .i64 p.first, Value.int .i64 p.days, v1, v2, rowV R3 (es.length + 1)]).toArray 74 (0, 0)) :: (l2 ++ rowO 91 R3)) (by
  show List.Sublist _ (_ :: _ :: _)
  refine List.Sublist.cons _ (List.Sublist.cons_cons _ ?_)
  exact (List.sublist_append_right _ _).append (List.Sublist.refl _)) (fun _ h => h)
 exact hm1.perm (List.Perm.cons _ List.perm_append_comm)
end Go.Proofs.YtaniaihoodgmpaaGreatDoor
