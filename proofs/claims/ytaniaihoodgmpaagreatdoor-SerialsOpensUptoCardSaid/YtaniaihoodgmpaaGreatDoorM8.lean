/- Of the proofs of YtaniaihoodgmpaaGreatDoor: Uh Ui Uj Uk Ul Um Un Uo Up, put together. -/
import Derived.Test.YtaniaihoodgmpaaGreatDoorM7
import Derived.Test.YtaniaihoodgmpaaGreatDoorM2
import Derived.Test.YtaniaihoodgmpaaGreatDoorM3
import Derived.Test.YtaniaihoodgmpaaGreatDoorM1
import Derived.Test.YtaniaihoodgmpaaGreatDoorM4
import Derived.Test.YtaniaihoodgmpaaGreatDoorM5
import Derived.Test.YtaniaihoodgmpaaGreatDoorM6
set_option linter.unusedVariables false
set_option linter.unusedSimpArgs false
set_option maxRecDepth 100000

namespace Go.Proofs.YtaniaihoodgmpaaGreatDoor
open Go.RowKit Go.PK
theorem c_rEnt {v1 v2 v3 : Value} {bs : Nat} (p : Pat) (es : List Ent) (q : Int) (w : World) (hS : SerRd w bs p es v1 v2 v3) (hlen : es.length ≤ 100000) :
  Calls Tryz.prog 51 #[.pointer (some ⟨bs, 0, none⟩), .int .i64 q] w fun e w' => ∃ y : Ent, e = .returned (.tuple #[.agg (entC y).toArray, .bool (thereP es q)]) ∧ Later w w' := by
 obtain ⟨A1, c1, rfl, hlc1, hmx1, hB1⟩ := id hS.lvs
 obtain ⟨A2, c2, rfl, hlc2, hmx2, hB2⟩ := id hS.sts
 obtain ⟨A3, c3, rfl, hlc3, hmx3, hB3⟩ := id hS.ent
 refine enter (vs := [.pointer (some ⟨bs, 0, none⟩), .int .i64 q]) Tryz.func51 rfl Tryz.ntmps51 rfl ?_
 refine Zs (Zr ?_)
 refine x_alloc rfl rfl rfl zr91 ?_
 intro p4
 refine Xa ?_
 refine Ze (Zt (Zs (Zs (Zr ?_))))
 refine Xa ?_
 refine Ze (Zt (w_block ?_))
 refine w_loop (σ := Nat) (fun k => k ≤ es.length ∧ ∀ j (h : j < es.length), j < k → ¬(es[j].fr ≤ q ∧ q ≤ es[j].to)) (fun k => [(0, .pointer (some ⟨bs, 0, none⟩)), (1, Value.int .i64 q), (4, .pointer (some ⟨p4, 0, none⟩)), (6, Value.int .i64 (k : Nat))]) (fun k => [(p4, Obj.cells ([Value.int .i64 0, Value.int .i64 0, Value.bool false, Value.int .i64 0]).toArray 91 (0, 0))]) (fun k => [(w, fun _ => True)]) (fun k => es.length - k) (0) (⟨Nat.zero_le _, by intros; omega⟩) (l_start Zu (fun _ h => h)) ?_
 rintro k ⟨hk, hno⟩
 refine w_state ([(0, .pointer (some ⟨bs, 0, none⟩)), (1, Value.int .i64 q), (4, .pointer (some ⟨p4, 0, none⟩)), (6, Value.int .i64 (k : Nat))]) ([(p4, Obj.cells ([Value.int .i64 0, Value.int .i64 0, Value.bool false, Value.int .i64 0]).toArray 91 (0, 0))]) ([(w, fun _ => True)]) ?_
 refine Zs (Zs (Zr ?_))
 refine Xm ?_
 refine Xm ?_
 refine Xv rfl (v_nilCheck rfl) ?_
 refine Xv rfl (v_fieldAddr (off' := 4) u74 rfl sz72 (by decide) rfl rfl) ?_
 refine Xv rfl (v_load u72 rfl rfl (at_ro (s := (w, fun _ => True)) Zh trivial (hS.cells 4 (by simp)))) ?_
 refine Xv rfl (v_len_slice u72 rfl) ?_
 refine Xb rfl (v_lss rfl rfl) fun b13 hb13 => ?_
 refine Ze (Zt ?_)
 refine w_cond rfl (fun hc13 => ?_) (fun hc13 => ?_)
 ·simp only [hb13, Qz, ne_eq] at hc13
  have hkl : k < es.length := by omega
  obtain ⟨b0, o0, hA0, _, hc0, hin0⟩ := ent_at hS.ent hkl
  refine w_skip (Zt (Zs (w_block (Zs (Zr ?_)))))
  refine Xm ?_
  refine Xv rfl (v_nilCheck rfl) ?_
  refine Xv rfl (v_fieldAddr (off' := 4) u74 rfl sz72 (by decide) rfl rfl) ?_
  refine Xv rfl (v_load u72 rfl rfl (at_ro (s := (w, fun _ => True)) Zh trivial (hS.cells 4 (by simp)))) ?_
  refine Xm ?_
  refine Xv rfl (v_indexAddr u72 sz91 (congrArg (fun A => some (Value.slice A es.length c3)) hA0) rfl Zo rfl) ?_
  refine Xv rfl (v_fieldAddr u91 rfl sz3 (by decide) rfl rfl) ?_
  refine Xv rfl (v_load u3 rfl rfl (at_ro (s := (w, fun _ => True)) Zh trivial (hc0 0 (show 0 < 4 by decide)))) ?_
  refine Xm ?_
  refine Xb rfl (v_leq rfl rfl) fun b25 hb25 => ?_
  refine Xm ?_
  refine Xg ?_
  refine Xg ?_
  refine Xi rfl rfl rfl (fun hg0 => by subst hg0; (try simp only [Qy]); exact v_nilCheck rfl) ?_
  refine Xi rfl rfl rfl (fun hg0 => by subst hg0; (try simp only [Qy]); exact v_fieldAddr (off' := 4) u74 rfl sz72 (by decide) rfl rfl) ?_
  refine Xi rfl rfl rfl (fun hg0 => by subst hg0; (try simp only [Qy]); exact v_load u72 rfl rfl (at_ro (s := (w, fun _ => True)) Zh trivial (hS.cells 4 (by simp)))) ?_
  refine Xg ?_
  refine Xi rfl rfl rfl (fun hg0 => by subst hg0; (try simp only [Qy]); exact v_indexAddr u72 sz91 (congrArg (fun A => some (Value.slice A es.length c3)) hA0) rfl Zo rfl) ?_
  refine Xi rfl rfl rfl (fun hg0 => by subst hg0; (try simp only [Qy]); exact v_fieldAddr u91 rfl sz3 (by decide) rfl rfl) ?_
  refine Xi rfl rfl rfl (fun hg0 => by subst hg0; (try simp only [Qy]); exact v_load u3 rfl rfl (at_ro (s := (w, fun _ => True)) Zh trivial (hc0 1 (show 1 < 4 by decide)))) ?_
  refine Xj rfl rfl rfl (fun hg0 => by subst hg0; (try simp only [Qy]); exact v_leq rfl rfl) fun b36 hb36 => ?_
  refine Xb rfl (v_and rfl rfl) fun b37 hb37 => ?_
  refine Ze (Zt ?_)
  refine w_cond rfl (fun hc37 => ?_) (fun hc37 => ?_)
  ·simp only [hb37, hb36, hb25, Qz, ne_eq] at hc37
   refine Zs (Zr ?_)
   refine Xm ?_
   refine Xv rfl (v_nilCheck rfl) ?_
   refine Xv rfl (v_fieldAddr (off' := 4) u74 rfl sz72 (by decide) rfl rfl) ?_
   refine Xv rfl (v_load u72 rfl rfl (at_ro (s := (w, fun _ => True)) Zh trivial (hS.cells 4 (by simp)))) ?_
   refine Xm ?_
   refine Xv rfl (v_indexAddr u72 sz91 (congrArg (fun A => some (Value.slice A es.length c3)) hA0) rfl Zo rfl) ?_
   refine Xv rfl (v_loadN (vs := entC es[k]) u91 rfl sz91 rfl (fun j hj => at_ro (s := (w, fun _ => True)) Zh trivial (hc0 j hj))) ?_
   refine x_store0 (cs := ([Value.int .i64 0, Value.int .i64 0, Value.bool false, Value.int .i64 0]).toArray) (e := 91) (l2 := []) [] rfl rfl rfl rfl sz91 rfl rfl ?_
   refine Xa ?_
   refine Ze (Zt (w_ret (b_ret (t_ret (t_ret (b_ret (t_ret ?_)))))))
   refine retct rfl rfl rfl (.head _) u91 rfl sz91 (fun w' hm => ⟨es[k], by rw [thereP_yes hkl ⟨by omega, by omega⟩]; rfl, hm.base (by simp)⟩)
  simp only [hb37, hb36, hb25, Qz, ne_eq] at hc37
  refine w_skip (b_norm (Zt (Zr ?_)))
  refine Xm ?_
  refine Xv rfl (v_addi rfl rfl rfl Zo) ?_
  refine Xa ?_
  refine Ze ?_
  exact l_norm (k + 1) ⟨hkl, fun j hj hjk => by rcases Nat.lt_succ_iff_lt_or_eq.1 hjk with h3 | rfl; (· exact hno j hj h3); omega⟩ (by omega) Zu (fun _ h => h)
 simp only [hb13, Qz, ne_eq] at hc13
 obtain rfl : k = es.length := by omega
 refine w_exit ?_
 refine t_exit ?_
 refine t_exit ?_
 refine b_hit ?_
 refine Zt (Zs (Zr ?_))
 refine Xv (v := Value.agg ([Value.int .i64 0, Value.int .i64 0, Value.bool false, Value.int .i64 0]).toArray) rfl (v_buildL (places := [(0, 1), (1, 1), (2, 1), (3, 1)]) u91 zr91 Zk rfl rfl) ?_
 refine x_store0 (cs := ([Value.int .i64 0, Value.int .i64 0, Value.bool false, Value.int .i64 0]).toArray) (e := 91) (l2 := []) [] rfl rfl rfl rfl sz91 rfl rfl ?_
 refine Xa ?_
 refine Ze (Zt (w_ret ?_))
 refine retct rfl rfl rfl (.head _) u91 rfl sz91 (fun w' hm => ⟨⟨0, 0, false, 0⟩, by rw [thereP_take (fun j hj => hno j hj hj)]; rfl, hm.base (by simp)⟩)
set_option maxHeartbeats 1000000 in
theorem c_rHeld {v1 v2 v3 : Value} {bs : Nat} (p : Pat) (es : List Ent) (w : World) (hS : SerRd w bs p es v1 v2 v3) (hq : es ≠ [] → rightQ p) (hok : ∀ x ∈ es, entOK x) (hlen : es.length ≤ 100000) :
  Calls Tryz.prog 20 #[.pointer (some ⟨bs, 0, none⟩)] w fun e w' => ∃ v, e = .returned v ∧ Later w w' ∧ sliceRd tyIss (fun b => w.heap.size ≤ b) w' v (heldP p es) := by
 obtain ⟨A1, c1, rfl, hlc1, hmx1, hB1⟩ := id hS.lvs
 obtain ⟨A2, c2, rfl, hlc2, hmx2, hB2⟩ := id hS.sts
 obtain ⟨A3, c3, rfl, hlc3, hmx3, hB3⟩ := id hS.ent
 refine enter (vs := [.pointer (some ⟨bs, 0, none⟩)]) Tryz.func20 rfl Tryz.ntmps20 rfl ?_
 refine Zs (Zr ?_)
 refine Xa ?_
 refine Ze (Zt (Zs (Zr ?_)))
 refine Xa ?_
 refine Ze (Zt (Zs (Zs (Zr ?_))))
 refine Xa ?_
 refine Ze (Zt (w_block ?_))
 refine w_fix (rowO 48 none) (List.Sublist.refl _) (fun w0 hm0 => ?_)
 refine w_loop (σ := RowS × Nat × World) (fun x => x.2.1 ≤ es.length ∧ RowT tyIss (newD w (rowO 48 x.1)) x.2.2 x.1 (heldP p (es.take x.2.1))) (fun x => [(0, .pointer (some ⟨bs, 0, none⟩)), (3, rowV x.1 (heldP p (es.take x.2.1)).length), (4, Value.int .i64 (x.2.1 : Nat))]) (fun x => rowO 48 x.1) (fun x => (x.2.2, notOwn (rowO 48 x.1)) :: [(w, fun _ => True)]) (fun x => es.length - x.2.1) ((none, 0, w0)) (⟨Nat.zero_le _, RowT.nil⟩) (l_start Zu (fun _ h => h)) ?_
 rintro ⟨R, k, ws⟩ ⟨hk, hT⟩
 refine w_state ([(0, .pointer (some ⟨bs, 0, none⟩)), (3, rowV R (heldP p (es.take k)).length), (4, Value.int .i64 (k : Nat))]) (rowO 48 R) ((ws, notOwn (rowO 48 R)) :: [(w, fun _ => True)]) ?_
 dsimp only at hk hT
 have hhl := heldP_len (p := p) hok k
 refine Zs (Zs (Zr ?_))
 refine Xm ?_
 refine Xm ?_
 refine Xv rfl (v_nilCheck rfl) ?_
 refine Xv rfl (v_fieldAddr (off' := 4) u74 rfl sz72 (by decide) rfl rfl) ?_
 refine Xv rfl (v_load u72 rfl rfl (at_ro (s := (w, fun _ => True)) Zh trivial (hS.cells 4 (by simp)))) ?_
 refine Xv rfl (v_len_slice u72 rfl) ?_
 refine Xb rfl (v_lss rfl rfl) fun b12 hb12 => ?_
 refine Ze (Zt ?_)
 refine w_cond rfl (fun hc12 => ?_) (fun hc12 => ?_)
 ·simp only [hb12, Qz, ne_eq] at hc12
  have hkl : k < es.length := by omega
  obtain ⟨b0, o0, hA0, _, hc0, hin0⟩ := ent_at hS.ent hkl
  obtain ⟨e1, e2, e3, e4, _⟩ := hok _ (List.getElem_mem hkl)
  have e5 := (hok _ (List.getElem_mem hkl)).in.2.2
  have hq := hq (fun h => by rw [h] at hkl; simp at hkl)
  have hdd := hq.2.2.2
  unfold okDay at hdd
  refine w_skip (Zt (Zs (w_block (Zs (Zr ?_)))))
  refine Xm ?_
  refine Xv rfl (v_nilCheck rfl) ?_
  refine Xv rfl (v_fieldAddr (off' := 4) u74 rfl sz72 (by decide) rfl rfl) ?_
  refine Xv rfl (v_load u72 rfl rfl (at_ro (s := (w, fun _ => True)) Zh trivial (hS.cells 4 (by simp)))) ?_
  refine Xm ?_
  refine Xv rfl (v_indexAddr u72 sz91 (congrArg (fun A => some (Value.slice A es.length c3)) hA0) rfl Zo rfl) ?_
  refine Xv rfl (v_fieldAddr u91 rfl sz3 (by decide) rfl rfl) ?_
  refine Xv rfl (v_load u3 rfl rfl (at_ro (s := (w, fun _ => True)) Zh trivial (hc0 0 (show 0 < 4 by decide)))) ?_
  refine Xv (v := Value.int .i64 (es[k].fr + ((0 : Nat) : Int))) rfl (by rw [show es[k].fr + ((0 : Nat) : Int) = es[k].fr by omega]; exact v_assign rfl) ?_
  refine Ze (Zt (w_block ?_))
  refine w_loop (σ := RowS × Nat × World) (fun x => x.2.1 ≤ (es[k].to - es[k].fr + 1).toNat ∧ (es[k].sk = true → x.2.1 = 0) ∧ RowT tyIss (newD w (rowO 48 x.1)) x.2.2 x.1 ((heldP p (es.take k)) ++ heldJ p es[k] x.2.1)) (fun x => [(0, .pointer (some ⟨bs, 0, none⟩)), (3, rowV x.1 ((heldP p (es.take k)).length + x.2.1)), (4, Value.int .i64 (k : Nat)), (5, Value.int .i64 (es[k].fr + (x.2.1 : Nat)))]) (fun x => rowO 48 x.1) (fun x => (x.2.2, notOwn (rowO 48 x.1)) :: [(w, fun _ => True)]) (fun x => (es[k].to - es[k].fr + 1).toNat - x.2.1) ((R, 0, ws)) (⟨Nat.zero_le _, fun _ => rfl, by dsimp only; rw [show heldJ p es[k] 0 = [] from rfl, List.append_nil]; exact hT⟩) (l_start Zu (fun _ h => h)) ?_
  rintro ⟨R', j, ws'⟩ ⟨hj, hsk, hT'⟩
  refine w_state ([(0, .pointer (some ⟨bs, 0, none⟩)), (3, rowV R' ((heldP p (es.take k)).length + j)), (4, Value.int .i64 (k : Nat)), (5, Value.int .i64 (es[k].fr + (j : Nat)))]) (rowO 48 R') ((ws', notOwn (rowO 48 R')) :: [(w, fun _ => True)]) ?_
  dsimp only at hj hsk hT'
  have hln : ((heldP p (es.take k)) ++ heldJ p es[k] j).length = (heldP p (es.take k)).length + j := by rw [List.length_append, heldJ_len]
  refine Zs (Zs (Zr ?_))
  refine Xm ?_
  refine Xm ?_
  refine Xv rfl (v_nilCheck rfl) ?_
  refine Xv rfl (v_fieldAddr (off' := 4) u74 rfl sz72 (by decide) rfl rfl) ?_
  refine Xv rfl (v_load u72 rfl rfl (at_ro (s := (w, fun _ => True)) Zh trivial (hS.cells 4 (by simp)))) ?_
  refine Xm ?_
  refine Xv rfl (v_indexAddr u72 sz91 (congrArg (fun A => some (Value.slice A es.length c3)) hA0) rfl Zo rfl) ?_
  refine Xv rfl (v_fieldAddr u91 rfl sz3 (by decide) rfl rfl) ?_
  refine Xv rfl (v_load u3 rfl rfl (at_ro (s := (w, fun _ => True)) Zh trivial (hc0 1 (show 1 < 4 by decide)))) ?_
  refine Xb rfl (v_leq rfl rfl) fun b32 hb32 => ?_
  refine Xm ?_
  refine Xg ?_
  refine Xi rfl rfl rfl (fun hg0 => by subst hg0; (try simp only [Qy]); exact v_nilCheck rfl) ?_
  refine Xi rfl rfl rfl (fun hg0 => by subst hg0; (try simp only [Qy]); exact v_fieldAddr (off' := 4) u74 rfl sz72 (by decide) rfl rfl) ?_
  refine Xi rfl rfl rfl (fun hg0 => by subst hg0; (try simp only [Qy]); exact v_load u72 rfl rfl (at_ro (s := (w, fun _ => True)) Zh trivial (hS.cells 4 (by simp)))) ?_
  refine Xg ?_
  refine Xi rfl rfl rfl (fun hg0 => by subst hg0; (try simp only [Qy]); exact v_indexAddr u72 sz91 (congrArg (fun A => some (Value.slice A es.length c3)) hA0) rfl Zo rfl) ?_
  refine Xi rfl rfl rfl (fun hg0 => by subst hg0; (try simp only [Qy]); exact v_fieldAddr u91 rfl sz4 (by decide) rfl rfl) ?_
  refine Xj rfl rfl rfl (fun hg0 => by subst hg0; (try simp only [Qy]); exact v_load u4 rfl rfl (at_ro (s := (w, fun _ => True)) Zh trivial (hc0 2 (show 2 < 4 by decide)))) fun b41 hb41 => ?_
  refine Xj rfl rfl rfl (fun hg0 => by subst hg0; (try simp only [Qy]); exact v_not rfl) fun b42 hb42 => ?_
  refine Xb rfl (v_and rfl rfl) fun b43 hb43 => ?_
  refine Ze (Zt ?_)
  refine w_cond rfl (fun hc43 => ?_) (fun hc43 => ?_)
  ·have hc := hc43
   simp only [hb43, hb42, hb41, hb32, Bool.and_eq_true, Bool.not_eq_true', decide_eq_true_eq] at hc
   obtain ⟨hjt, hsf⟩ := hc
   have hdy := day_rng hq (show 0 ≤ (es[k].fr + (j : Nat)) by omega) (by omega)
   refine w_skip (Zt (Zs (w_block ?_)))
   refine rg_draw 17 [(true, 0), (true, 1), (true, 2), (true, 3), (true, 4), (true, 5), (true, 7), (true, 8), (true, 9), (true, 10), (true, 11), (true, 12), (true, 13), (true, 14), (false, 6), (true, 15), (false, 16)] Zk Zk ?_
   refine Xm ?_
   refine Xm ?_
   refine Xv rfl (v_nilCheck rfl) ?_
   refine Xv rfl (v_fieldAddr (off' := 0) u74 rfl sz26 (by decide) rfl rfl) ?_
   refine Xv rfl (v_loadN (vs := ([Value.int .i64 p.first, Value.int .i64 p.days, Value.slice A1 p.lv.length c1, Value.slice A2 p.st.length c2, Value.slice A3 es.length c3]).take 4) u26 rfl sz26 rfl (fun j hj => at_ro (s := (w, fun _ => True)) Zh trivial (by match j, hj with | 0, _ => exact hS.cells 0 (by simp) | 1, _ => exact hS.cells 1 (by simp) | 2, _ => exact hS.cells 2 (by simp) | 3, _ => exact hS.cells 3 (by simp)))) ?_
   refine Xm ?_
   refine Xm ?_
   refine Xv rfl (v_nilCheck rfl) ?_
   refine Xv rfl (v_fieldAddr (off' := 4) u74 rfl sz72 (by decide) rfl rfl) ?_
   refine Xv rfl (v_load u72 rfl rfl (at_ro (s := (w, fun _ => True)) Zh trivial (hS.cells 4 (by simp)))) ?_
   refine Xm ?_
   refine Xv rfl (v_indexAddr u72 sz91 (congrArg (fun A => some (Value.slice A es.length c3)) hA0) rfl Zo rfl) ?_
   refine Xv rfl (v_fieldAddr u91 rfl sz3 (by decide) rfl rfl) ?_
   refine Xv rfl (v_load u3 rfl rfl (at_ro (s := (w, fun _ => True)) Zh trivial (hc0 3 (show 3 < 4 by decide)))) ?_
   refine x_call (R := fun v wa wb => sliceRd tyI (fun b => wa.heap.size ≤ b) wb v (numsP p (es[k].fr + (j : Nat)))) rfl rfl rfl Tryz.func52 Zk rfl (fun w1 hw1 => c_Numbers p (es[k].fr + (j : Nat)) w1 (patRd.keep (⟨hS.fst, hS.dys, hS.lvs, hS.sts⟩ : patRd (fun _ => True) w p (.slice A1 p.lv.length c1) (.slice A2 p.st.length c2)) (Kept.later (hw1.base (by simp)))) hq (by omega) (by omega)) fun v52 wa wb hwa hwl hR9 => ?_
   obtain ⟨A8, c8, rfl, -⟩ := id hR9
   obtain ⟨css, hcl, hrow, hrd⟩ := hT'
   rw [hln] at hcl hrow
   refine Xv (v := .agg ([Value.slice A8 (numsP p (es[k].fr + (j : Nat))).length c8, Value.int .i64 es[k].day]).toArray) rfl (v_buildL (places := [(0, 1), (1, 1)]) u48 zr48 Zk rfl rfl) ?_
   refine x_buildSliceL (cs := [Value.slice A8 (numsP p (es[k].fr + (j : Nat))).length c8, Value.int .i64 es[k].day]) rfl rfl rfl u40 sz48 zr48 rfl rfl rfl ?_
   intro p62
   refine x_append (e := 48) [(p62, Obj.cells ([Value.slice A8 (numsP p (es[k].fr + (j : Nat))).length c8, Value.int .i64 es[k].day]).toArray 48)] (l2 := []) R' (len := (heldP p (es.take k)).length + j) (xs := css.flatten) rfl rfl rfl rfl (by simp only [List.append_nil]; rfl) hrow u40 ap48 rfl rfl (m := 1) (news := [Value.slice A8 (numsP p (es[k].fr + (j : Nat))).length c8, Value.int .i64 es[k].day]) (fun i hi => at_ownL (vs := [Value.slice A8 (numsP p (es[k].fr + (j : Nat))).length c8, Value.int .i64 es[k].day]) (.head _) (by rw [Nat.zero_add]; exact List.getElem?_eq_getElem hi)) rfl Zx (by omega) fun R2 hR2 => ?_
   rw [List.append_nil]
   refine Xa ?_
   refine Ze (b_norm (Zt (Zr ?_)))
   refine Xm ?_
   refine Xv rfl (v_addi rfl rfl rfl Zo) ?_
   refine Xa ?_
   refine Ze ?_
   refine s_fix (rowO 48 R2) (List.sublist_cons_self _ _) (fun w0 hm0 => ?_)
   have hT2 := snocN (T := tyIss) (D := newD w (rowO 48 R2)) (ws := w0) (x := (⟨numsP p (es[k].fr + (j : Nat)), es[k].day⟩ : Iss)) hln hcl (fun j h1 h2 => tyIss.keep (hrd j h1 h2) (Kept.frz hm0 (List.sublist_cons_self _ _) (by simp))) hR2 ⟨_, rfl, hR9.keep (Kept.made2 (hm0.less (List.sublist_cons_self _ _) (fun _ h => h)) (.head _) (fun k hk p hp he => by have := hwa.lt hp; omega) (hwa.base (by simp)).size), e5⟩
   exact l_norm (x := (R', j, ws')) (μ := fun q : RowS × Nat × World => (es[k].to - es[k].fr + 1).toNat - q.2.1) (R2, j + 1, w0) ⟨by dsimp only; omega, (fun h => by rw [hsf] at h; cases h), by dsimp only; rw [heldJ_succ, ← List.append_assoc]; exact hT2⟩ (by simp only; omega) (by dsimp only; rw [show es[k].fr + ((j + 1 : Nat) : Int) = es[k].fr + (j : Nat) + 1 by omega, show (heldP p (es.take k)).length + (j + 1) = (heldP p (es.take k)).length + j + 1 by omega]; exact Zu) (fun w1 h => h.less (List.Sublist.refl _) (fun q hq => by simp at hq ⊢; rcases hq with h | h; (· exact .inl h); simp [h]))
  have hc := hc43
  simp only [hb43, hb42, hb41, hb32, Bool.and_eq_false_iff, Bool.not_eq_false', decide_eq_false_iff_not] at hc
  have hE : heldE p es[k] = heldJ p es[k] j := by
   unfold heldE
   rcases hsq : es[k].sk with _ | _
   ·rw [if_neg Bool.false_ne_true]
    rcases hc with hc | hc
    ·congr 1; omega
    rw [hsq] at hc; cases hc
   rw [if_pos rfl, hsk hsq]; rfl
  refine w_exit ?_
  refine t_exit ?_
  refine t_exit ?_
  refine b_hit ?_
  refine b_norm (Zt (Zr ?_))
  refine Xm ?_
  refine Xv rfl (v_addi rfl rfl rfl Zo) ?_
  refine Xa ?_
  refine Ze ?_
  have hsn := heldP_snoc (p := p) hkl
  rw [hE] at hsn
  exact l_norm (x := (R, k, ws)) (μ := fun q : RowS × Nat × World => es.length - q.2.1) (R', k + 1, ws') ⟨hkl, by dsimp only; rw [hsn]; exact hT'⟩ (by simp only; omega) (by dsimp only; rw [hsn, hln]; exact Zu) (fun _ h => h)
 simp only [hb12, Qz, ne_eq] at hc12
 obtain rfl : k = es.length := by omega
 rw [List.take_length] at hT
 refine w_exit ?_
 refine t_exit ?_
 refine t_exit ?_
 refine b_hit ?_
 refine Zt (Zs (Zr ?_))
 refine Xm ?_
 refine Xa ?_
 refine Ze (Zt (w_ret ?_))
 refine ret1 rfl rfl (fun w' hm => ⟨_, rfl, hm.base (by simp), ?_⟩)
 rw [List.take_length]
 exact (hT.keep (Kept.frz hm (List.Sublist.refl _) (.head _))).rd (e := 48) hm (fun q hq => hq) (fun _ h => h.1) (fun q hq => hm.newer (by simp) hq) rfl
open Go.RowKit Go.PK
set_option maxHeartbeats 1000000 in
theorem c_rEnc {v1 v2 v3 : Value} {bs : Nat} (p : Pat) (es : List Ent) (w : World) (hS : SerRd w bs p es v1 v2 v3) (hlen : es.length ≤ 1000) :
  Calls Tryz.prog 22 #[.pointer (some ⟨bs, 0, none⟩)] w fun e w' => e = .returned (.string (encQ p es)) ∧ Later w w' := by
 obtain ⟨A1, c1, rfl, hlc1, hmx1, hB1⟩ := id hS.lvs
 obtain ⟨A2, c2, rfl, hlc2, hmx2, hB2⟩ := id hS.sts
 obtain ⟨A3, c3, rfl, hlc3, hmx3, hB3⟩ := id hS.ent
 refine enter (vs := [.pointer (some ⟨bs, 0, none⟩)]) Tryz.func22 rfl Tryz.ntmps22 rfl ?_
 refine Zs (Zr ?_)
 refine Xa ?_
 refine Ze (Zt (Zs (Zr ?_)))
 refine Xa ?_
 refine Ze (Zt (Zs (Zs (Zr ?_))))
 refine Xa ?_
 refine Ze (Zt (w_block ?_))
 refine w_loop (σ := Nat × RowS) (fun x => x.1 ≤ es.length ∧ rowOK 1 x.2 (x.1 * 4) ((entsI (es.take x.1)).map (Value.int .i64))) (fun x => [(0, .pointer (some ⟨bs, 0, none⟩)), (3, rowV x.2 (x.1 * 4)), (4, Value.int .i64 (x.1 : Nat))]) (fun x => rowO 3 x.2) (fun x => [(w, fun _ => True)]) (fun x => es.length - x.1) ((0, none)) (⟨Nat.zero_le _, rowOK_nil⟩) (l_start Zu (fun _ h => h)) ?_
 rintro ⟨k, R⟩ ⟨hk, hR⟩
 refine w_state ([(0, .pointer (some ⟨bs, 0, none⟩)), (3, rowV R (k * 4)), (4, Value.int .i64 (k : Nat))]) (rowO 3 R) ([(w, fun _ => True)]) ?_
 dsimp only at hk hR
 refine Zs (Zs (Zr ?_))
 refine Xm ?_
 refine Xm ?_
 refine Xv rfl (v_nilCheck rfl) ?_
 refine Xv rfl (v_fieldAddr (off' := 4) u74 rfl sz72 (by decide) rfl rfl) ?_
 refine Xv rfl (v_load u72 rfl rfl (at_ro (s := (w, fun _ => True)) Zh trivial (hS.cells 4 (by simp)))) ?_
 refine Xv rfl (v_len_slice u72 rfl) ?_
 refine Xb rfl (v_lss rfl rfl) fun b12 hb12 => ?_
 refine Ze (Zt ?_)
 refine w_cond rfl (fun hc12 => ?_) (fun hc12 => ?_)
 ·simp only [hb12, Qz, ne_eq] at hc12
  have hkl : k < es.length := by omega
  obtain ⟨b0, o0, hA0, _, hc0, hin0⟩ := ent_at hS.ent hkl
  refine w_skip (Zt (Zs (w_block (Zs (Zr ?_)))))
  refine Xa ?_
  refine Ze (Zt ?_)
  refine w_seq_cut (σ := Int) (fun z => z = if es[k].sk then 1 else 0) (fun z => [(0, .pointer (some ⟨bs, 0, none⟩)), (3, rowV R (k * 4)), (4, Value.int .i64 (k : Nat)), (5, Value.int .i64 z)]) (fun z => rowO 3 R) (fun z => [(w, fun _ => True)]) ?_ ?_
  ·refine w_seq ?_
   refine Zr ?_
   refine Xm ?_
   refine Xv rfl (v_nilCheck rfl) ?_
   refine Xv rfl (v_fieldAddr (off' := 4) u74 rfl sz72 (by decide) rfl rfl) ?_
   refine Xv rfl (v_load u72 rfl rfl (at_ro (s := (w, fun _ => True)) Zh trivial (hS.cells 4 (by simp)))) ?_
   refine Xm ?_
   refine Xv rfl (v_indexAddr u72 sz91 (congrArg (fun A => some (Value.slice A es.length c3)) hA0) rfl Zo rfl) ?_
   refine Xv rfl (v_fieldAddr u91 rfl sz4 (by decide) rfl rfl) ?_
   refine Xb rfl (v_load u4 rfl rfl (at_ro (s := (w, fun _ => True)) Zh trivial (hc0 2 (show 2 < 4 by decide)))) fun b22 hb22 => ?_
   refine Ze (Zt ?_)
   refine w_cond rfl (fun hc22 => ?_) (fun hc22 => ?_)
   ·have hsk : es[k].sk = true := hb22.symm.trans hc22
    refine Zr ?_
    refine Xa ?_
    refine Ze ?_
    exact c_norm 1 (by rw [hsk]; rfl) Zu (fun _ h => h)
   have hsk : es[k].sk = false := hb22.symm.trans hc22
   refine w_skip ?_
   exact c_norm 0 (by rw [hsk]; rfl) Zu (fun _ h => h)
  rintro z hz
  refine w_state ([(0, .pointer (some ⟨bs, 0, none⟩)), (3, rowV R (k * 4)), (4, Value.int .i64 (k : Nat)), (5, Value.int .i64 z)]) (rowO 3 R) ([(w, fun _ => True)]) ?_
  refine rg_draw 27 [(true, 0), (true, 1), (true, 2), (true, 3), (true, 4), (true, 5), (true, 6), (true, 7), (true, 8), (true, 9), (true, 10), (true, 11), (true, 12), (true, 13), (true, 14), (true, 15), (true, 16), (true, 17), (true, 18), (true, 19), (true, 20), (true, 21), (true, 22), (true, 23), (true, 24), (true, 25), (false, 26)] Zk Zk ?_
  refine Xm ?_
  refine Xm ?_
  refine Xv rfl (v_nilCheck rfl) ?_
  refine Xv rfl (v_fieldAddr u74 rfl sz72 (by decide) rfl rfl) ?_
  refine Xv rfl (v_load u72 rfl rfl (at_ro (s := (w, fun _ => True)) Zh trivial (hS.cells 4 (by simp)))) ?_
  refine Xm ?_
  refine Xv rfl (v_indexAddr u72 sz91 (congrArg (fun A => some (Value.slice A es.length c3)) hA0) rfl Zo rfl) ?_
  refine Xv rfl (v_fieldAddr u91 rfl sz3 (by decide) rfl rfl) ?_
  refine Xv rfl (v_load u3 rfl rfl (at_ro (s := (w, fun _ => True)) Zh trivial (hc0 0 (show 0 < 4 by decide)))) ?_
  refine Xm ?_
  refine Xv rfl (v_nilCheck rfl) ?_
  refine Xv rfl (v_fieldAddr u74 rfl sz72 (by decide) rfl rfl) ?_
  refine Xv rfl (v_load u72 rfl rfl (at_ro (s := (w, fun _ => True)) Zh trivial (hS.cells 4 (by simp)))) ?_
  refine Xm ?_
  refine Xv rfl (v_indexAddr u72 sz91 (congrArg (fun A => some (Value.slice A es.length c3)) hA0) rfl Zo rfl) ?_
  refine Xv rfl (v_fieldAddr u91 rfl sz3 (by decide) rfl rfl) ?_
  refine Xv rfl (v_load u3 rfl rfl (at_ro (s := (w, fun _ => True)) Zh trivial (hc0 1 (show 1 < 4 by decide)))) ?_
  refine Xm ?_
  refine Xm ?_
  refine Xv rfl (v_nilCheck rfl) ?_
  refine Xv rfl (v_fieldAddr u74 rfl sz72 (by decide) rfl rfl) ?_
  refine Xv rfl (v_load u72 rfl rfl (at_ro (s := (w, fun _ => True)) Zh trivial (hS.cells 4 (by simp)))) ?_
  refine Xm ?_
  refine Xv rfl (v_indexAddr u72 sz91 (congrArg (fun A => some (Value.slice A es.length c3)) hA0) rfl Zo rfl) ?_
  refine Xv rfl (v_fieldAddr u91 rfl sz3 (by decide) rfl rfl) ?_
  refine Xv rfl (v_load u3 rfl rfl (at_ro (s := (w, fun _ => True)) Zh trivial (hc0 3 (show 3 < 4 by decide)))) ?_
  refine x_buildSliceL (cs := [Value.int .i64 es[k].fr, Value.int .i64 es[k].to, Value.int .i64 z, Value.int .i64 es[k].day]) rfl rfl rfl u22 sz3 zr3 rfl rfl rfl ?_
  intro p49
  refine x_append (e := 3) [(p49, Obj.cells ([Value.int .i64 es[k].fr, Value.int .i64 es[k].to, Value.int .i64 z, Value.int .i64 es[k].day]).toArray 3 (0, 0))] (l2 := []) R (len := k * 4) (xs := (entsI (es.take k)).map (Value.int .i64)) rfl rfl rfl rfl (by simp only [List.append_nil]; rfl) hR u22 ap3 rfl rfl (m := 4) (news := [Value.int .i64 es[k].fr, Value.int .i64 es[k].to, Value.int .i64 z, Value.int .i64 es[k].day]) (fun i hi => at_ownL (vs := [Value.int .i64 es[k].fr, Value.int .i64 es[k].to, Value.int .i64 z, Value.int .i64 es[k].day]) (.head _) (by rw [Nat.zero_add]; exact List.getElem?_eq_getElem hi)) rfl Zx (by omega) fun R' hR' => ?_
  rw [List.append_nil]
  refine Xa ?_
  refine Ze (b_norm (Zt (Zr ?_)))
  refine Xm ?_
  refine Xv rfl (v_addi rfl rfl rfl Zo) ?_
  refine Xa ?_
  refine Ze ?_
  exact l_norm (x := (k, R)) (μ := fun q : Nat × RowS => es.length - q.1) (k + 1, R') ⟨by dsimp only; omega, by dsimp only; rw [entsI_snoc hkl, List.map_append, show (k + 1) * 4 = k * 4 + 4 by omega]; subst hz; exact hR'⟩ (by simp only; omega) (by dsimp only; rw [show (k + 1) * 4 = k * 4 + 4 by omega]; exact Zu) (fun w1 h => h.less ((List.Sublist.refl _).cons _) (fun _ h => h))
 simp only [hb12, Qz, ne_eq] at hc12
 obtain rfl : k = es.length := by omega
 rw [List.take_length] at hR
 have hin9 := entsI_in (rdE_in hS.ent)
 have hln9 := entsI_len es
 refine w_exit ?_
 refine t_exit ?_
 refine t_exit ?_
 refine b_hit ?_
 refine Zt (Zs (Zr ?_))
 refine Xm ?_
 refine Xv rfl (v_nilCheck rfl) ?_
 refine Xv rfl (v_fieldAddr (off' := 0) u74 rfl sz26 (by decide) rfl rfl) ?_
 refine Xv rfl (v_loadN (vs := ([Value.int .i64 p.first, Value.int .i64 p.days, Value.slice A1 p.lv.length c1, Value.slice A2 p.st.length c2, Value.slice A3 es.length c3]).take 4) u26 rfl sz26 rfl (fun j hj => at_ro (s := (w, fun _ => True)) Zh trivial (by match j, hj with | 0, _ => exact hS.cells 0 (by simp) | 1, _ => exact hS.cells 1 (by simp) | 2, _ => exact hS.cells 2 (by simp) | 3, _ => exact hS.cells 3 (by simp)))) ?_
 refine x_callv rfl rfl rfl Tryz.func25 Zk rfl (fun w1 hw1 => c_rWrite p w1 (patRd.keep (⟨hS.fst, hS.dys, hS.lvs, hS.sts⟩ : patRd (fun _ => True) w p (.slice A1 p.lv.length c1) (.slice A2 p.st.length c2)) (Kept.later (hw1.base (by simp))))) ?_
 refine Xm ?_
 refine x_callv (v := Value.string ⟨(intsG (entsI es)).toArray⟩) rfl rfl rfl Tryz.func26 Zk rfl (fun w1 hw1 => c_rInts w1 (rowI_rd (D := fun _ => True) (e := 3) hR hln9.symm hin9 hw1 (fun q hq => hq) (fun _ _ => trivial)) (by rw [hln9]; omega)) ?_
 refine x_buildSliceL (cs := [Value.string (writeQ p), Value.string ⟨(intsG (entsI es)).toArray⟩]) rfl rfl rfl u55 sz9 zr9 rfl rfl rfl ?_
 intro p58
 have hz1 : (writeQ p).size ≤ 2000000 := by
  by_cases hq : rightQ p
  ·have := wr_sz hq; omega
  unfold writeQ; rw [if_neg hq]; decide
 have hz2 : (⟨(intsG (entsI es)).toArray⟩ : ByteArray).size ≤ 2000000 := by
  rw [mk_size, ← intsT_all]
  have := intsT_len (l := entsI es) (by omega) hin9 _ (Nat.le_refl _)
  omega
 refine x_callv (v := Value.string (encQ p es)) rfl rfl rfl Tryz.func24 Zk rfl (fun w1 hw1 => c_rPack (l := [writeQ p, ⟨(intsG (entsI es)).toArray⟩]) (D := fun _ => True) w1 (row1_rd (T := tyStr) (e := 9) (r := some (p58, [writeQ p, ⟨(intsG (entsI es)).toArray⟩].map Value.string, 2)) Value.string rfl (rowOK_lit rfl (by simp [maxLen])) rfl (fun D9 w9 s hs => ⟨rfl, by unfold okS; rcases List.mem_cons.1 hs with rfl | hs; (· omega); rw [List.mem_singleton.1 hs]; omega⟩) hw1 (fun q hq => by rw [show q = _ from List.mem_singleton.1 hq]; exact .head _) (fun _ _ => trivial)) (by simp) (fun s hs => by rcases List.mem_cons.1 hs with rfl | hs; (· exact hz1); rw [List.mem_singleton.1 hs]; exact hz2)) ?_
 refine Xa ?_
 refine Ze (Zt (w_ret ?_))
 refine ret1 rfl rfl (fun w' hm => ⟨?_, hm.base (by simp)⟩)
 rfl
theorem dly_snoc {p : Pat} {es : List Ent} {k : Nat} (h : k < es.length) : dlyP p (es.take (k + 1)) = if es[k].sk then dlyP p (es.take k) else (max 0 (min 10000 (es[k].day - p.first - es[k].fr * p.days)), es[k].to) := by
 unfold dlyP
 rw [List.take_succ_eq_append_getElem h, List.reverse_append, List.reverse_singleton, List.singleton_append, List.find?_cons]
 cases hs : es[k].sk with
 | true => rfl
 | false =>
  rw [if_neg Bool.false_ne_true]
  show (dlyE p es[k], es[k].to) = _
  unfold dlyE
  rw [show min (max (es[k].day - (p.first + es[k].fr * p.days)) 0) 10000 = max 0 (min 10000 (es[k].day - p.first - es[k].fr * p.days)) by omega]
set_option maxHeartbeats 2000000 in
theorem c_rMissing {v1 v2 v3 : Value} {bs : Nat} (p : Pat) (es : List Ent) (day : Int) (w : World) (hS : SerRd w bs p es v1 v2 v3) (hsrt : srt es) (hlen : es.length ≤ 100000) (hday : in64 day) :
  Calls Tryz.prog 18 #[.pointer (some ⟨bs, 0, none⟩), .int .i64 day] w fun e w' => ∃ v, e = .returned v ∧ Later w w' ∧ sliceRd tyIss (fun b => w.heap.size ≤ b) w' v (missP p es day) := by
 obtain ⟨A1, c1, rfl, hlc1, hmx1, hB1⟩ := id hS.lvs
 obtain ⟨A2, c2, rfl, hlc2, hmx2, hB2⟩ := id hS.sts
 obtain ⟨A3, c3, rfl, hlc3, hmx3, hB3⟩ := id hS.ent
 refine enter (vs := [.pointer (some ⟨bs, 0, none⟩), .int .i64 day]) Tryz.func18 rfl Tryz.ntmps18 rfl ?_
 refine Zs (Zr ?_)
 refine Xa ?_
 refine Ze (Zt (Zs (Zr ?_)))
 refine Xm ?_
 refine Xv rfl (v_nilCheck rfl) ?_
 refine Xv rfl (v_fieldAddr (off' := 0) u74 rfl sz26 (by decide) rfl rfl) ?_
 refine Xv rfl (v_loadN (vs := ([Value.int .i64 p.first, Value.int .i64 p.days, Value.slice A1 p.lv.length c1, Value.slice A2 p.st.length c2, Value.slice A3 es.length c3]).take 4) u26 rfl sz26 rfl (fun j hj => at_ro (s := (w, fun _ => True)) Zh trivial (by match j, hj with | 0, _ => exact hS.cells 0 (by simp) | 1, _ => exact hS.cells 1 (by simp) | 2, _ => exact hS.cells 2 (by simp) | 3, _ => exact hS.cells 3 (by simp)))) ?_
 refine x_callb rfl rfl rfl Tryz.func35 Zk rfl (fun w1 hw1 => c_rRight p w1 (patRd.keep (⟨hS.fst, hS.dys, hS.lvs, hS.sts⟩ : patRd (fun _ => True) w p (.slice A1 p.lv.length c1) (.slice A2 p.st.length c2)) (Kept.later (hw1.base (by simp))))) fun b18 hb18 => ?_
 refine Xa ?_
 refine Ze (Zt (Zs (Zs (Zr ?_))))
 refine Xm ?_
 refine Xb rfl (v_not rfl) fun b20 hb20 => ?_
 refine Ze (Zt ?_)
 refine w_cond rfl (fun hc20 => ?_) (fun hc20 => ?_)
 ·have hno : ¬rightQ p := fun h => by rw [hb20, hb18, decide_eq_true h] at hc20; cases hc20
  refine Zs (Zr ?_)
  refine Xa ?_
  refine Ze (Zt (w_ret (t_ret ?_)))
  refine ret1 rfl rfl (fun w' hm => ⟨_, rfl, hm.base (by simp), ?_⟩)
  unfold missP; rw [if_neg hno]
  exact ⟨none, 0, rfl, Nat.le_refl _, Nat.zero_le _, fun h => absurd h (Nat.lt_irrefl 0)⟩
 have hq : rightQ p := by rw [hb20, hb18] at hc20; simpa using hc20
 have hff := hq.2.2.2
 unfold okDay at hff
 refine w_skip (Zt (Zs (Zr ?_)))
 refine Xa ?_
 refine Ze (Zt (Zs (Zr ?_)))
 refine Xa ?_
 refine Ze (Zt (Zs (Zs (Zr ?_))))
 refine Xa ?_
 refine Ze (Zt (w_block ?_))
 refine w_loop (σ := Nat) (fun k => k ≤ es.length) (fun k => [(0, .pointer (some ⟨bs, 0, none⟩)), (1, Value.int .i64 day), (6, Value.int .i64 (dlyP p (es.take k)).1), (7, Value.int .i64 (dlyP p (es.take k)).2), (8, Value.int .i64 (k : Nat))]) (fun k => []) (fun k => [(w, fun _ => True)]) (fun k => es.length - k) (0) (Nat.zero_le _) (l_start Zu (fun _ h => h)) ?_
 rintro k hk
 refine w_state ([(0, .pointer (some ⟨bs, 0, none⟩)), (1, Value.int .i64 day), (6, Value.int .i64 (dlyP p (es.take k)).1), (7, Value.int .i64 (dlyP p (es.take k)).2), (8, Value.int .i64 (k : Nat))]) ([]) ([(w, fun _ => True)]) ?_
 refine Zs (Zs (Zr ?_))
 refine Xm ?_
 refine Xm ?_
 refine Xv rfl (v_nilCheck rfl) ?_
 refine Xv rfl (v_fieldAddr (off' := 4) u74 rfl sz72 (by decide) rfl rfl) ?_
 refine Xv rfl (v_load u72 rfl rfl (at_ro (s := (w, fun _ => True)) Zh trivial (hS.cells 4 (by simp)))) ?_
 refine Xv rfl (v_len_slice u72 rfl) ?_
 refine Xb rfl (v_lss rfl rfl) fun b27 hb27 => ?_
 refine Ze (Zt ?_)
 refine w_cond rfl (fun hc27 => ?_) (fun hc27 => ?_)
 ·simp only [hb27, Qz, ne_eq] at hc27
  have hkl : k < es.length := by omega
  obtain ⟨b0, o0, hA0, _, hc0, hin0⟩ := ent_at hS.ent hkl
  obtain ⟨e1, e2, e3, e4, e5⟩ := hsrt.2 _ (List.getElem_mem hkl)
  unfold okDay at e5
  have hdy := day_rng hq e1 (by omega)
  have hsn := dly_snoc (p := p) hkl
  refine w_skip (Zt (Zs (w_block (Zs (Zr ?_)))))
  refine Xm ?_
  refine Xv rfl (v_nilCheck rfl) ?_
  refine Xv rfl (v_fieldAddr (off' := 4) u74 rfl sz72 (by decide) rfl rfl) ?_
  refine Xv rfl (v_load u72 rfl rfl (at_ro (s := (w, fun _ => True)) Zh trivial (hS.cells 4 (by simp)))) ?_
  refine Xm ?_
  refine Xv rfl (v_indexAddr u72 sz91 (congrArg (fun A => some (Value.slice A es.length c3)) hA0) rfl Zo rfl) ?_
  refine Xv rfl (v_fieldAddr u91 rfl sz4 (by decide) rfl rfl) ?_
  refine Xb rfl (v_load u4 rfl rfl (at_ro (s := (w, fun _ => True)) Zh trivial (hc0 2 (show 2 < 4 by decide)))) fun b37 hb37 => ?_
  refine Xb rfl (v_not rfl) fun b38 hb38 => ?_
  refine Ze (Zt ?_)
  refine w_cond rfl (fun hc38 => ?_) (fun hc38 => ?_)
  ·have hsk : es[k].sk = false := by rw [hb38, hb37] at hc38; simpa using hc38
   rw [hsk, if_neg Bool.false_ne_true] at hsn
   refine Zs ?_
   refine rg_draw 32 [(true, 0), (true, 1), (true, 2), (true, 3), (true, 4), (true, 5), (true, 6), (true, 7), (true, 8), (true, 9), (true, 10), (true, 11), (true, 12), (true, 13), (true, 14), (true, 15), (true, 16), (true, 17), (true, 18), (true, 19), (true, 20), (true, 21), (true, 22), (true, 23), (true, 24), (true, 25), (true, 26), (true, 27), (true, 28), (true, 29), (true, 30), (true, 31)] Zk Zk ?_
   refine Xm ?_
   refine Xv rfl (v_nilCheck rfl) ?_
   refine Xv rfl (v_fieldAddr (off' := 4) u74 rfl sz72 (by decide) rfl rfl) ?_
   refine Xv rfl (v_load u72 rfl rfl (at_ro (s := (w, fun _ => True)) Zh trivial (hS.cells 4 (by simp)))) ?_
   refine Xm ?_
   refine Xv rfl (v_indexAddr u72 sz91 (congrArg (fun A => some (Value.slice A es.length c3)) hA0) rfl Zo rfl) ?_
   refine Xv rfl (v_fieldAddr u91 rfl sz3 (by decide) rfl rfl) ?_
   refine Xv rfl (v_load u3 rfl rfl (at_ro (s := (w, fun _ => True)) Zh trivial (hc0 3 (show 3 < 4 by decide)))) ?_
   refine Xm ?_
   refine Xv rfl (v_nilCheck rfl) ?_
   refine Xv rfl (v_fieldAddr (off' := 0) u74 rfl sz26 (by decide) rfl rfl) ?_
   refine Xv rfl (v_fieldAddr (off' := 0) u26 rfl sz3 (by decide) rfl rfl) ?_
   refine Xv rfl (v_load u3 rfl rfl (at_ro (s := (w, fun _ => True)) Zh trivial (hS.cells 0 (by simp)))) ?_
   refine Xv rfl (v_subi rfl rfl rfl Zo) ?_
   refine Xm ?_
   refine Xv rfl (v_nilCheck rfl) ?_
   refine Xv rfl (v_fieldAddr (off' := 4) u74 rfl sz72 (by decide) rfl rfl) ?_
   refine Xv rfl (v_load u72 rfl rfl (at_ro (s := (w, fun _ => True)) Zh trivial (hS.cells 4 (by simp)))) ?_
   refine Xm ?_
   refine Xv rfl (v_indexAddr u72 sz91 (congrArg (fun A => some (Value.slice A es.length c3)) hA0) rfl Zo rfl) ?_
   refine Xv rfl (v_fieldAddr u91 rfl sz3 (by decide) rfl rfl) ?_
   refine Xv rfl (v_load u3 rfl rfl (at_ro (s := (w, fun _ => True)) Zh trivial (hc0 0 (show 0 < 4 by decide)))) ?_
   refine Xm ?_
   refine Xv rfl (v_nilCheck rfl) ?_
   refine Xv rfl (v_fieldAddr (off' := 0) u74 rfl sz26 (by decide) rfl rfl) ?_
   refine Xv rfl (v_fieldAddr (off' := 1) u26 rfl sz3 (by decide) rfl rfl) ?_
   refine Xv rfl (v_load u3 rfl rfl (at_ro (s := (w, fun _ => True)) Zh trivial (hS.cells 1 (by simp)))) ?_
   refine Xv rfl (v_muli rfl rfl rfl Zo) ?_
   refine Xv rfl (v_subi rfl rfl rfl Zo) ?_
   refine Xv rfl (v_min rfl rfl) ?_
   refine Xv rfl (v_max rfl rfl) ?_
   refine Xa ?_
   refine Ze (Zt (Zr ?_))
   refine Xm ?_
   refine Xv rfl (v_nilCheck rfl) ?_
   refine Xv rfl (v_fieldAddr (off' := 4) u74 rfl sz72 (by decide) rfl rfl) ?_
   refine Xv rfl (v_load u72 rfl rfl (at_ro (s := (w, fun _ => True)) Zh trivial (hS.cells 4 (by simp)))) ?_
   refine Xm ?_
   refine Xv rfl (v_indexAddr u72 sz91 (congrArg (fun A => some (Value.slice A es.length c3)) hA0) rfl Zo rfl) ?_
   refine Xv rfl (v_fieldAddr u91 rfl sz3 (by decide) rfl rfl) ?_
   refine Xv rfl (v_load u3 rfl rfl (at_ro (s := (w, fun _ => True)) Zh trivial (hc0 1 (show 1 < 4 by decide)))) ?_
   refine Xa ?_
   refine Ze (b_norm (Zt (Zr ?_)))
   refine Xm ?_
   refine Xv rfl (v_addi rfl rfl rfl Zo) ?_
   refine Xa ?_
   refine Ze ?_
   exact l_norm (k + 1) hkl (by omega) (by rw [hsn]; exact Zu) (fun _ h => h)
  have hsk : es[k].sk = true := by rw [hb38, hb37] at hc38; simpa using hc38
  rw [hsk, if_pos rfl] at hsn
  refine w_skip (b_norm (Zt (Zr ?_)))
  refine Xm ?_
  refine Xv rfl (v_addi rfl rfl rfl Zo) ?_
  refine Xa ?_
  refine Ze ?_
  exact l_norm (k + 1) hkl (by omega) (by rw [hsn]; exact Zu) (fun _ h => h)
 simp only [hb27, Qz, ne_eq] at hc27
 obtain rfl : k = es.length := by omega
 rw [List.take_length]
 obtain ⟨⟨hd0, hd1⟩, hl0, hl1⟩ := dlyP_rng p hsrt.2
 have hmis0 : ([] : List Iss) ++ missR p es (dlyP p es).1 (dlyP p es).2 day (100001 - 0) (0 : Nat) 0 = missP p es day := by
  unfold missP
  rw [if_pos hq, List.nil_append]
  exact miss_same hq.2.2.1.1 hd0 _ _ es _ _ hsrt (fun e he => by have h1 := hsrt.2 e he; have h2 := h1.1; have h3 := h1.le; omega) (fun _ _ => rfl) (by omega) (Nat.le_refl _)
 refine w_exit ?_
 refine t_exit ?_
 refine t_exit ?_
 refine b_hit ?_
 refine Zt (Zs (Zr ?_))
 refine Xa ?_
 refine Ze (Zt (Zs (Zs (Zr ?_))))
 refine Xa ?_
 refine Ze (Zt (w_block ?_))
 refine w_fix (rowO 48 none) (List.Sublist.refl _) (fun w0 hm0 => ?_)
 refine w_loop (σ := List Iss × RowS × Nat × World) (fun x => x.2.2.1 ≤ 100000 ∧ x.1.length ≤ 1000 ∧ x.1 ++ missR p es (dlyP p es).1 (dlyP p es).2 day (100001 - x.2.2.1) (x.2.2.1 : Nat) x.1.length = missP p es day ∧ RowT tyIss (newD w (rowO 48 x.2.1)) x.2.2.2 x.2.1 x.1) (fun x => [(0, .pointer (some ⟨bs, 0, none⟩)), (1, Value.int .i64 day), (6, Value.int .i64 (dlyP p es).1), (7, Value.int .i64 (dlyP p es).2), (9, rowV x.2.1 x.1.length), (10, Value.int .i64 (x.2.2.1 : Nat))]) (fun x => rowO 48 x.2.1) (fun x => (x.2.2.2, notOwn (rowO 48 x.2.1)) :: [(w, fun _ => True)]) (fun x => 100000 - x.2.2.1) (([], none, 0, w0)) (⟨Nat.zero_le _, Nat.zero_le _, hmis0, RowT.nil⟩) (l_start Zu (fun _ h => h)) ?_
 rintro ⟨out, R, q, ws⟩ ⟨hq1, hol, hmf, hT⟩
 refine w_state ([(0, .pointer (some ⟨bs, 0, none⟩)), (1, Value.int .i64 day), (6, Value.int .i64 (dlyP p es).1), (7, Value.int .i64 (dlyP p es).2), (9, rowV R out.length), (10, Value.int .i64 (q : Nat))]) (rowO 48 R) ((ws, notOwn (rowO 48 R)) :: [(w, fun _ => True)]) ?_
 dsimp only at hq1 hol hmf hT
 obtain ⟨f, hf⟩ : ∃ f, 100001 - q = f + 1 := ⟨100000 - q, by omega⟩
 rw [hf, missR] at hmf
 refine Zs (Zs (Zr ?_))
 refine Xm ?_
 refine Xb rfl (v_lss rfl rfl) fun b79 hb79 => ?_
 refine Xm ?_
 refine Xg ?_
 refine Xi rfl rfl rfl (fun hg0 => by subst hg0; (try simp only [Qy]); exact v_len_slice u40 rfl) ?_
 refine Xj rfl rfl rfl (fun hg0 => by subst hg0; (try simp only [Qy]); exact v_lss rfl rfl) fun b83 hb83 => ?_
 refine Xb rfl (v_and rfl rfl) fun b84 hb84 => ?_
 refine Ze (Zt ?_)
 refine w_cond rfl (fun hc84 => ?_) (fun hc84 => ?_)
 ·simp only [hb84, hb83, hb79, Qz, ne_eq] at hc84
  have hq2 : q < 100000 := by have := hc84.1; omega
  have hon : out.length < 1000 := by have := hc84.2; omega
  rw [if_pos ⟨by omega, hon⟩] at hmf
  have hdy := day_rng hq (show (0 : Int) ≤ (q : Nat) by omega) (show ((q : Nat) : Int) ≤ 2000000 by omega)
  refine w_skip (Zt (Zs (w_block (Zs ?_))))
  refine rg_draw 14 [(true, 0), (true, 1), (true, 2), (true, 3), (true, 4), (true, 5), (true, 6), (true, 7), (true, 8), (true, 9), (true, 10), (true, 11), (true, 12), (true, 13)] Zk Zk ?_
  refine Xm ?_
  refine Xv rfl (v_nilCheck rfl) ?_
  refine Xv rfl (v_fieldAddr (off' := 0) u74 rfl sz26 (by decide) rfl rfl) ?_
  refine Xv rfl (v_fieldAddr (off' := 0) u26 rfl sz3 (by decide) rfl rfl) ?_
  refine Xv rfl (v_load u3 rfl rfl (at_ro (s := (w, fun _ => True)) Zh trivial (hS.cells 0 (by simp)))) ?_
  refine Xm ?_
  refine Xm ?_
  refine Xv rfl (v_nilCheck rfl) ?_
  refine Xv rfl (v_fieldAddr (off' := 0) u74 rfl sz26 (by decide) rfl rfl) ?_
  refine Xv rfl (v_fieldAddr (off' := 1) u26 rfl sz3 (by decide) rfl rfl) ?_
  refine Xv rfl (v_load u3 rfl rfl (at_ro (s := (w, fun _ => True)) Zh trivial (hS.cells 1 (by simp)))) ?_
  refine Xv rfl (v_muli rfl rfl rfl Zo) ?_
  refine Xv rfl (v_addi rfl rfl rfl Zo) ?_
  refine Xa ?_
  refine Ze (Zt ?_)
  refine w_seq_cut (σ := Int) (fun ex => ex = (p.first + (q : Nat) * p.days + (if (q : Int) > (dlyP p es).2 then (dlyP p es).1 else 0))) (fun ex => [(0, .pointer (some ⟨bs, 0, none⟩)), (1, Value.int .i64 day), (6, Value.int .i64 (dlyP p es).1), (7, Value.int .i64 (dlyP p es).2), (9, rowV R out.length), (10, Value.int .i64 (q : Nat)), (11, Value.int .i64 ex)]) (fun ex => rowO 48 R) (fun ex => (ws, notOwn (rowO 48 R)) :: [(w, fun _ => True)]) ?_ ?_
  ·refine w_seq ?_
   refine Zr ?_
   refine Xm ?_
   refine Xm ?_
   refine Xb rfl (v_gtr rfl rfl) fun b102 hb102 => ?_
   refine Ze (Zt ?_)
   refine w_cond rfl (fun hc102 => ?_) (fun hc102 => ?_)
   ·simp only [hb102, Qz, ne_eq] at hc102
    have hadd : (if (q : Int) > (dlyP p es).2 then (dlyP p es).1 else 0) = (dlyP p es).1 := if_pos (by omega)
    refine Zr ?_
    refine Xm ?_
    refine Xm ?_
    refine Xv rfl (v_addi rfl rfl rfl Zo) ?_
    refine Xa ?_
    refine Ze ?_
    exact c_norm (p.first + (q : Nat) * p.days + (dlyP p es).1) (by rw [hadd]) Zu (fun _ h => h)
   simp only [hb102, Qz, ne_eq] at hc102
   have hadd : (if (q : Int) > (dlyP p es).2 then (dlyP p es).1 else 0) = 0 := if_neg (by omega)
   refine w_skip ?_
   exact c_norm (p.first + (q : Nat) * p.days) (by rw [hadd, Int.add_zero]) Zu (fun _ h => h)
  rintro ex hex
  refine w_state ([(0, .pointer (some ⟨bs, 0, none⟩)), (1, Value.int .i64 day), (6, Value.int .i64 (dlyP p es).1), (7, Value.int .i64 (dlyP p es).2), (9, rowV R out.length), (10, Value.int .i64 (q : Nat)), (11, Value.int .i64 ex)]) (rowO 48 R) ((ws, notOwn (rowO 48 R)) :: [(w, fun _ => True)]) ?_
  rw [← hex] at hmf
  have hexr : -1000000000000 ≤ ex ∧ ex ≤ 1000000000000 := by rw [hex]; split <;> omega
  refine Zs (Zs (Zr ?_))
  refine Xm ?_
  refine Xm ?_
  refine Xb rfl (v_gtr rfl rfl) fun b108 hb108 => ?_
  refine Xm ?_
  refine Xg ?_
  refine Xg ?_
  refine Xj rfl rfl rfl (fun hg0 => by subst hg0; (try simp only [Qy]); exact v_gtr rfl rfl) fun b112 hb112 => ?_
  refine Xb rfl (v_and rfl rfl) fun b113 hb113 => ?_
  refine Ze (Zt ?_)
  refine w_cond rfl (fun hc113 => ?_) (fun hc113 => ?_)
  ·simp only [hb113, hb112, hb108, Qz, ne_eq] at hc113
   rw [if_pos ⟨by omega, by omega⟩, List.append_nil] at hmf
   subst hmf
   refine w_exit ?_
   refine t_exit ?_
   refine b_miss rfl ?_
   refine t_exit ?_
   refine t_exit ?_
   refine b_hit ?_
   refine Zt (Zs (Zr ?_))
   refine Xm ?_
   refine Xa ?_
   refine Ze (Zt (w_ret ?_))
   refine ret1 rfl rfl (fun w' hm => ⟨_, rfl, hm.base (by simp), ?_⟩)
   exact (hT.keep (Kept.frz hm (List.Sublist.refl _) (.head _))).rd (e := 48) hm (fun q hq => hq) (fun _ h => h.1) (fun q hq => hm.newer (by simp) hq) rfl
  simp only [hb113, hb112, hb108, Qz, ne_eq] at hc113
  rw [if_neg (fun h => by obtain ⟨h1, h2⟩ := h; rcases hc113 with h3 | h3 <;> omega)] at hmf
  refine w_skip (Zt (Zs (Zr ?_)))
  refine Xm ?_
  refine Xm ?_
  refine x_call (R := fun v wa wb => ∃ y : Ent, v = .tuple #[.agg (entC y).toArray, .bool (thereP es (q : Nat))]) rfl rfl rfl Tryz.func51 Zk rfl (fun w1 hw1 => (c_rEnt p es (q : Nat) w1 (hS.keep (hw1.base (by simp))) hlen).mono fun e w2 ⟨y, h1, h2⟩ => ⟨_, h1, h2, y, rfl⟩) fun v117 wa117 wb117 hm117 hl117 hR117 => ?_
  obtain ⟨y, rfl⟩ := hR117
  refine Xm ?_
  refine Xv rfl (v_extract rfl rfl) ?_
  refine Xb rfl (v_extract rfl rfl) fun b119 hb119 => ?_
  refine x_alloc rfl rfl rfl zr91 ?_
  intro p12
  refine x_store0 [] rfl rfl rfl rfl sz91 rfl rfl ?_
  refine Xa ?_
  refine Ze (Zt (Zs (Zr ?_)))
  refine Xm ?_
  refine Xb rfl (v_not rfl) fun b121 hb121 => ?_
  refine Xm ?_
  refine Xg ?_
  refine Xg ?_
  refine Xj rfl rfl rfl (fun hg0 => by subst hg0; (try simp only [Qy]); exact v_leq rfl rfl) fun b125 hb125 => ?_
  refine Xb rfl (v_and rfl rfl) fun b126 hb126 => ?_
  refine Ze (Zt ?_)
  refine w_cond rfl (fun hc126 => ?_) (fun hc126 => ?_)
  ·simp only [hb126, hb125, hb121, hb119, Qz, ne_eq] at hc126
   have hth : thereP es (q : Nat) = false := by have := hc126.1; simpa using this
   rw [if_pos ⟨hth, by have := hc126.2; omega⟩] at hmf
   refine Zr ?_
   refine Xm ?_
   refine Xm ?_
   refine Xv rfl (v_nilCheck rfl) ?_
   refine Xv rfl (v_fieldAddr u74 rfl sz26 (by decide) rfl rfl) ?_
   refine Xv rfl (v_loadN (vs := ([Value.int .i64 p.first, Value.int .i64 p.days, Value.slice A1 p.lv.length c1, Value.slice A2 p.st.length c2, Value.slice A3 es.length c3]).take 4) u26 rfl sz26 rfl (fun j hj => at_ro (s := (w, fun _ => True)) Zh trivial (by match j, hj with | 0, _ => exact hS.cells 0 (by simp) | 1, _ => exact hS.cells 1 (by simp) | 2, _ => exact hS.cells 2 (by simp) | 3, _ => exact hS.cells 3 (by simp)))) ?_
   refine Xm ?_
   refine x_call (R := fun v wa wb => sliceRd tyI (fun b => wa.heap.size ≤ b) wb v (numsP p (q : Nat))) rfl rfl rfl Tryz.func52 Zk rfl (fun w1 hw1 => c_Numbers p (q : Nat) w1 (patRd.keep (⟨hS.fst, hS.dys, hS.lvs, hS.sts⟩ : patRd (fun _ => True) w p (.slice A1 p.lv.length c1) (.slice A2 p.st.length c2)) (Kept.later (hw1.base (by simp)))) hq (by omega) (by omega)) fun v133 wa wb hwa hwl hR9 => ?_
   obtain ⟨A8, c8, rfl, -⟩ := id hR9
   obtain ⟨css, hcl, hrow, hrd⟩ := hT
   refine Xm ?_
   refine Xv (v := .agg ([Value.slice A8 (numsP p (q : Nat)).length c8, Value.int .i64 ex]).toArray) rfl (v_buildL (places := [(0, 1), (1, 1)]) u48 zr48 Zk rfl rfl) ?_
   refine x_buildSliceL (cs := [Value.slice A8 (numsP p (q : Nat)).length c8, Value.int .i64 ex]) rfl rfl rfl u40 sz48 zr48 rfl rfl rfl ?_
   intro p136
   refine x_append (e := 48) [(p136, Obj.cells ([Value.slice A8 (numsP p (q : Nat)).length c8, Value.int .i64 ex]).toArray 48), (p12, Obj.cells (entC y).toArray 91 (0, 0))] (l2 := []) R (len := out.length) (xs := css.flatten) rfl rfl rfl rfl (by simp only [List.append_nil]; rfl) hrow u40 ap48 rfl rfl (m := 1) (news := [Value.slice A8 (numsP p (q : Nat)).length c8, Value.int .i64 ex]) (fun i hi => at_ownL (vs := [Value.slice A8 (numsP p (q : Nat)).length c8, Value.int .i64 ex]) (.head _) (by rw [Nat.zero_add]; exact List.getElem?_eq_getElem hi)) rfl Zx (by omega) fun R2 hR2 => ?_
   rw [List.append_nil]
   refine Xa ?_
   refine Ze (b_norm (Zt (Zr ?_)))
   refine Xm ?_
   refine Xv rfl (v_addi rfl rfl rfl Zo) ?_
   refine Xa ?_
   refine Ze ?_
   refine s_fix (rowO 48 R2) (((List.Sublist.refl _).cons _).cons _) (fun w0 hm0 => ?_)
   have hT2 := snocN (T := tyIss) (D := newD w (rowO 48 R2)) (ws := w0) (x := (⟨numsP p (q : Nat), ex⟩ : Iss)) rfl hcl (fun j h1 h2 => tyIss.keep (hrd j h1 h2) (Kept.frz hm0 (((List.Sublist.refl _).cons _).cons _) (by simp))) hR2 ⟨_, rfl, hR9.keep (Kept.made2 (hm0.less (((List.Sublist.refl _).cons _).cons _) (fun _ h => h)) (.head _) (fun k hk p hp he => by have := hwa.lt hp; omega) (hwa.base (by simp)).size), by unfold in64; dsimp only; omega⟩
   exact l_norm (x := (out, R, q, ws)) (μ := fun x : List Iss × RowS × Nat × World => 100000 - x.2.2.1) (out ++ [⟨numsP p (q : Nat), ex⟩], R2, q + 1, w0) ⟨by dsimp only; omega, by dsimp only; rw [List.length_append, List.length_singleton]; omega, by dsimp only; rw [List.length_append, List.length_singleton, List.append_assoc, show 100001 - (q + 1) = f by omega]; exact hmf, hT2⟩ (by simp only; omega) (by dsimp only; rw [List.length_append, List.length_singleton]; exact Zu) (fun w1 h => h.less (List.Sublist.refl _) (fun q hq => by simp at hq ⊢; rcases hq with h | h; (· exact .inl h); simp [h]))
  simp only [hb126, hb125, hb121, hb119, Qz, ne_eq] at hc126
  rw [if_neg (fun h => by obtain ⟨h1, h2⟩ := h; rcases hc126 with h3 | h3; (· rw [h1] at h3; simp at h3); omega)] at hmf
  refine w_skip (b_norm (Zt (Zr ?_)))
  refine Xm ?_
  refine Xv rfl (v_addi rfl rfl rfl Zo) ?_
  refine Xa ?_
  refine Ze ?_
  exact l_norm (x := (out, R, q, ws)) (μ := fun x : List Iss × RowS × Nat × World => 100000 - x.2.2.1) (out, R, q + 1, ws) ⟨by dsimp only; omega, hol, by dsimp only; rw [show 100001 - (q + 1) = f by omega]; exact hmf, hT⟩ (by simp only; omega) Zu (fun w1 h => h.less (List.sublist_cons_self _ _) (fun s hs => by repeat (first | exact hs | apply List.mem_cons_of_mem)))
 simp only [hb84, hb83, hb79, Qz, ne_eq] at hc84
 rw [if_neg (fun h => by obtain ⟨h1, h2⟩ := h; rcases hc84 with h3 | h3 <;> omega), List.append_nil] at hmf
 subst hmf
 refine w_exit ?_
 refine t_exit ?_
 refine t_exit ?_
 refine b_hit ?_
 refine Zt (Zs (Zr ?_))
 refine Xm ?_
 refine Xa ?_
 refine Ze (Zt (w_ret ?_))
 refine ret1 rfl rfl (fun w' hm => ⟨_, rfl, hm.base (by simp), ?_⟩)
 exact (hT.keep (Kept.frz hm (List.Sublist.refl _) (.head _))).rd (e := 48) hm (fun q hq => hq) (fun _ h => h.1) (fun q hq => hm.newer (by simp) hq) rfl
open Go.RowKit Go.PK
theorem take_srt {p : Pat} {es : List Ent} {text : ByteArray} {day : Int} (h : srt es) : srt (takeQ p es text day).1 ∧ (takeQ p es text day).1.length ≤ es.length + 1 := by
 rw [takeQ_eq]
 cases hx : (tkE p text day).1 with
 | none => exact ⟨h, by dsimp only; omega⟩
 | some x =>
  dsimp only
  cases hm : meets es x with
  | true => exact ⟨h, by show es.length ≤ _; omega⟩
  | false => exact ⟨(ins_srt h (tkE_ok hx).1 hm).1, by show (insE es x).length ≤ _; rw [insE_len]; omega⟩
theorem serRd_own {p : Pat} {es : List Ent} {R : RowS} {v1 v2 : Value} {w : World} {own : List (Nat × Obj)} {ro : List Snap} {b : Nat} {e e2 : TypeId} (hm : Mem w own ro) (hb : (b, Obj.cells [Value.int .i64 p.first, Value.int .i64 p.days, v1, v2, rowV R es.length].toArray e (0, 0)) ∈ own)
  (hp : patRd (fun _ => True) w p v1 v2) (hR : rowOK 4 R es.length (entsC es)) (hin : ∀ x ∈ es, entIn x) (h3 : ∀ q ∈ rowO e2 R, q ∈ own) : SerRd w b p es v1 v2 (rowV R es.length) where
 cells := fun j hj => by
  have := hm.cell_own hb j
  rw [this, List.getElem?_toArray]
  exact List.getElem?_eq_getElem (l := [Value.int .i64 p.first, Value.int .i64 p.days, v1, v2, rowV R es.length]) hj
 lvs := hp.2.2.1
 sts := hp.2.2.2
 fst := hp.1
 dys := hp.2.1
 ent := ents_rd (e := e2) hR rfl hin hm h3 (fun _ _ => trivial)
open Go.RowKit Go.PK
set_option maxHeartbeats 1000000 in
theorem c_RN (s : ByteArray) (w : World) (hs : s.size ≤ 2000000) :
  Calls Tryz.prog 112 #[.string s] w fun e w' => e = .returned (.tuple #[.int .u64 ((rnL (bl s)).1 : Nat), .int .i64 ((rnL (bl s)).2.1 : Nat), .int .i64 (rnL (bl s)).2.2]) ∧ Later w w' := by
 refine enter (vs := [.string s]) Tryz.func112 rfl Tryz.ntmps112 rfl ?_
 refine Zs (Zr ?_)
 refine Xa ?_
 refine Xa ?_
 refine Xa ?_
 refine Ze (Zt (Zs (Zr ?_)))
 refine Xa ?_
 refine Ze (Zt (Zs (Zs (Zr ?_))))
 refine Xm ?_
 refine Xm ?_
 refine Xv rfl (v_len_str u9 rfl) ?_
 refine Xv (v := Value.int .i64 ((min s.size 10 : Nat) : Int)) rfl (by rw [show ((min s.size 10 : Nat) : Int) = min (s.size : Int) 10 by omega]; exact v_min rfl rfl) ?_
 refine Xv rfl (v_cut_to (j := min s.size 10) u9 rfl rfl (by omega)) ?_
 obtain ⟨t, ht⟩ : ∃ t, s.extract 0 (min s.size 10) = t := ⟨_, rfl⟩
 have htb : bl t = (bl s).take 10 := by rw [← ht, bl_ext, List.drop_zero, Nat.sub_zero]; by_cases h : s.size ≤ 10; (· rw [Nat.min_eq_left h, List.take_of_length_le (by rw [bl_len]; omega), List.take_of_length_le (by rw [bl_len]; omega)]); rw [Nat.min_eq_right (by omega)]
 have hts : t.size = min s.size 10 := by rw [← bl_len t, htb, List.length_take, bl_len]; omega
 have hsl : (bl s).length = s.size := bl_len s
 refine x_bytes (e := 5) (s := t) rfl rfl rfl u9 u45 u5 (by rw [← ht]; rfl) fun p13 cp cs fz hcp hcs => ?_
 have hce : ∀ i (h : i < t.size) (h2 : i < (bl s).length), cs[0 + i * 1]? = some (Value.int .u8 (((bl s)[i].toNat : Nat) : Int)) := fun i h h2 => by
  have e1 : cs[i]? = (cs.take t.size)[i]? := by rw [List.getElem?_take, if_pos h]
  have h3 : i < (bl t).length := by rw [bl_len]; exact h
  have e2 : (bl t)[i] = (bl s)[i] := by simp [htb]
  rw [Nat.zero_add, Nat.mul_one, e1, hcs]
  show (byC (bl t))[i]? = _
  rw [byC_at h3, e2]
 refine Xv rfl (v_len_slice u45 rfl) ?_
 refine Xm ?_
 refine Ze (Zt (w_block ?_))
 refine w_loop (σ := Nat × Int) (fun x => x.1 ≤ t.size ∧ (∀ j (hj : j < (bl s).length), j < x.1 → 128 ≤ (bl s)[j].toNat) ∧ (x.1 ≤ 9 → x.2 = ((gV ((bl s).take x.1) : Nat) : Int))) (fun x => [(0, Value.string s), (5, Value.int .u64 x.2), (13, Value.slice (some ⟨p13, 0, none⟩) t.size cp), (14, Value.int .i64 (t.size : Nat)), (15, Value.int .i64 (x.1 : Nat))]) (fun x => [(p13, Obj.cells cs.toArray 5 fz)]) (fun x => [(w, fun _ => True)]) (fun x => t.size - x.1) ((0, 0)) (⟨Nat.zero_le _, (fun j hj h => absurd h (Nat.not_lt_zero _)), fun _ => rfl⟩) (l_start Zu (fun _ h => h)) ?_
 rintro ⟨i, v⟩ ⟨hi, hH, hv⟩
 refine w_state ([(0, Value.string s), (5, Value.int .u64 v), (13, Value.slice (some ⟨p13, 0, none⟩) t.size cp), (14, Value.int .i64 (t.size : Nat)), (15, Value.int .i64 (i : Nat))]) ([(p13, Obj.cells cs.toArray 5 fz)]) ([(w, fun _ => True)]) ?_
 dsimp only at hi hH hv
 refine Zs (Zr ?_)
 refine Xb rfl (v_lss rfl rfl) fun b16 hb16 => ?_
 refine Ze (Zt (Zs ?_))
 refine w_cond rfl (fun hc16 => ?_) (fun hc16 => ?_)
 ·simp only [hb16, Qz, ne_eq] at hc16
  have hit : i < t.size := by omega
  have hil : i < (bl s).length := by omega
  obtain ⟨b, hb⟩ : ∃ b, (bl s)[i] = b := ⟨_, rfl⟩
  have hbl := b.toNat_lt
  have hce1 := hce i hit hil
  have hgs := gV_succ hil
  rw [hb] at hce1
  refine w_skip (Zt (Zs (w_block (Zs (Zr ?_)))))
  refine Xm ?_
  refine Xv rfl (v_indexAddr u45 sz5 rfl rfl Zo rfl) ?_
  refine Xv rfl (v_load u5 rfl rfl (at_ownL (vs := cs) (.head _) hce1)) ?_
  refine Xa ?_
  refine Xa ?_
  refine Ze (Zt (Zs (Zr ?_)))
  refine Xm ?_
  refine Xm ?_
  refine Xv (v := Value.int .u8 ((b.toNat % 128 : Nat) : Int)) rfl (v_remN (b := 128) rfl rfl (by decide)) ?_
  refine Xv rfl (v_convE (c := ((b.toNat % 128 : Nat) : Int)) u5 u107 rfl (u64_wrap (by omega))) ?_
  refine Xm ?_
  refine Xv rfl (v_muli (c := ((7 * i : Nat) : Int)) rfl rfl (by omega) (by omega)) ?_
  refine Xv rfl (v_shl rfl rfl (by omega) rfl) ?_
  obtain ⟨nv, hnv⟩ : ∃ nv, orK .u64 v (IntKind.u64.wrap (((b.toNat % 128 : Nat) : Int) * 2 ^ min (((7 * i : Nat) : Int)).toNat IntKind.u64.bits)) = nv := ⟨_, rfl⟩
  refine Xv (v := Value.int .u64 nv) rfl (by rw [← hnv]; exact v_orK rfl rfl) ?_
  have hacc : gV ((bl s).take (i + 1)) < 18446744073709551616 → nv = ((gV ((bl s).take (i + 1)) : Nat) : Int) := fun h => by
   have := acc_step hil h
   rw [hb, ← hv (by omega)] at this
   rw [← hnv]; exact this
  refine Xa ?_
  refine Ze (Zt (Zs (Zs (Zr ?_))))
  refine Xm ?_
  refine Xb rfl (v_geq rfl rfl) fun b29 hb29 => ?_
  refine Ze (Zt ?_)
  refine w_cond rfl (fun hc29 => ?_) (fun hc29 => ?_)
  ·simp only [hb29, Qz, ne_eq] at hc29
   have hb8 : 128 ≤ b.toNat := by omega
   refine w_exit ?_
   refine t_exit ?_
   refine b_hit ?_
   refine Zt (Zr ?_)
   refine Xv rfl (v_addi rfl rfl rfl Zo) ?_
   refine Xm ?_
   refine Ze ?_
   exact l_norm (x := (i, v)) (μ := fun q : Nat × Int => t.size - q.1) (i + 1, nv) ⟨hit, fun j hj hji => by rcases Nat.lt_succ_iff_lt_or_eq.1 hji with h | rfl; (· exact hH j hj h); rw [hb]; exact hb8, fun h9 => hacc (gV_ten hil (by dsimp only at h9; omega))⟩ (by simp only; omega) Zu (fun _ h => h)
  simp only [hb29, Qz, ne_eq] at hc29
  have hb8 : b.toNat < 128 := by omega
  have hst := rn_stop (l := (bl s)) hil (by omega) hH (by rw [hb]; exact hb8)
  rw [hb] at hst
  refine w_skip (Zt (Zs (Zs (Zr ?_))))
  refine Xm ?_
  refine Xb rfl (v_gtr rfl rfl) fun b31 hb31 => ?_
  refine Xm ?_
  refine Xg ?_
  refine Xj rfl rfl rfl (fun hg0 => by subst hg0; (try simp only [Qy]); exact v_eql rfl rfl) fun b34 hb34 => ?_
  refine Xb rfl (v_and rfl rfl) fun b35 hb35 => ?_
  refine Xm ?_
  refine Xg ?_
  refine Xj rfl rfl rfl (fun hg0 => by subst hg0; (try simp only [Qy]); exact v_eql rfl rfl) fun b38 hb38 => ?_
  refine Xg ?_
  refine x_if [(b35, false)] rfl rfl rfl rfl rfl (fun hg => by obtain ⟨hg0, hg1, _⟩ := hg; subst hg0; subst hg1; (try simp only [Qy]); exact v_move rfl) ?_
  refine x_ifb [(b35, false)] rfl rfl rfl rfl rfl (fun hg => by obtain ⟨hg0, hg1, _⟩ := hg; subst hg0; subst hg1; (try simp only [Qy]); exact v_gtr rfl rfl) fun b41 hb41 => ?_
  refine Xj rfl rfl rfl (fun hg0 => by subst hg0; (try simp only [Qy]); exact v_and rfl rfl) fun b42 hb42 => ?_
  refine Xb rfl (v_or rfl rfl) fun b43 hb43 => ?_
  refine Ze (Zt ?_)
  refine w_cond rfl (fun hc43 => ?_) (fun hc43 => ?_)
  ·have hc : (0 < i ∧ b.toNat = 0) ∨ (i = 9 ∧ 1 < b.toNat) := by
    rw [hb43, hb42, hb41, hb38, hb35, hb34, hb31] at hc43
    simp only [Bool.or_eq_true, Bool.and_eq_true, decide_eq_true_eq] at hc43
    omega
   rw [if_pos hc] at hst
   refine Zs (Zr ?_)
   refine Xa ?_
   refine Xa ?_
   refine Xa ?_
   refine Ze (Zt (w_ret (t_ret (b_ret (t_ret (t_ret (b_ret (t_ret ?_))))))))
   refine ret3 rfl rfl rfl rfl (fun w' hm => ⟨?_, hm.base (by simp)⟩)
   rw [hst]; rfl
  have hc : ¬((0 < i ∧ b.toNat = 0) ∨ (i = 9 ∧ 1 < b.toNat)) := by
   intro h
   have h43 : b43 = true := by
    rw [hb43, hb42, hb41, hb38, hb35, hb34, hb31]
    simp only [Bool.or_eq_true, Bool.and_eq_true, decide_eq_true_eq]
    omega
   rw [h43] at hc43; cases hc43
  rw [if_neg hc] at hst
  have hnv2 := hacc (gV_small hil (by omega) (by rw [hb]; exact hb8) (by rw [hb]; exact fun h => hc (.inr h)))
  subst hnv2
  refine w_skip (Zt (Zs (Zr ?_)))
  refine Xm ?_
  refine Xm ?_
  refine Xv rfl (v_addi (c := ((i + 1 : Nat) : Int)) rfl rfl (by omega) (by omega)) ?_
  refine Xa ?_
  refine Xa ?_
  refine Xa ?_
  refine Ze (Zt (w_ret (b_ret (t_ret (t_ret (b_ret (t_ret ?_)))))))
  refine ret3 rfl rfl rfl rfl (fun w' hm => ⟨?_, hm.base (by simp)⟩)
  rw [hst]
 simp only [hb16, Qz, ne_eq] at hc16
 have hend := rn_end (l := (bl s)) (fun j hj hj9 => hH j hj (by omega))
 refine w_exit ?_
 refine t_exit ?_
 refine t_exit ?_
 refine b_hit ?_
 refine Zt (Zs (Zs (Zr ?_)))
 refine Xm ?_
 refine Xv rfl (v_len_str u9 rfl) ?_
 refine Xb rfl (v_lss rfl rfl) fun b50 hb50 => ?_
 refine Ze (Zt ?_)
 refine w_cond rfl (fun hc50 => ?_) (fun hc50 => ?_)
 ·simp only [hb50, Qz, ne_eq] at hc50
  rw [if_pos (by omega)] at hend
  refine Zs (Zr ?_)
  refine Xa ?_
  refine Xa ?_
  refine Xa ?_
  refine Ze (Zt (w_ret (t_ret ?_)))
  refine ret3 rfl rfl rfl rfl (fun w' hm => ⟨?_, hm.base (by simp)⟩)
  rw [hend]; rfl
 simp only [hb50, Qz, ne_eq] at hc50
 rw [if_neg (by omega)] at hend
 refine w_skip (Zt (Zs (Zr ?_)))
 refine Xa ?_
 refine Xa ?_
 refine Xa ?_
 refine Ze (Zt (w_ret ?_))
 refine ret3 rfl rfl rfl rfl (fun w' hm => ⟨?_, hm.base (by simp)⟩)
 rw [hend]; rfl
set_option maxHeartbeats 1000000 in
theorem c_rRN (s : ByteArray) (w : World) (hs : s.size ≤ 2000000) :
  Calls Tryz.prog 92 #[.string s] w fun e w' => e = .returned (.tuple #[.int .u64 ((rnL (bl s)).1 : Nat), .int .i64 ((rnL (bl s)).2.1 : Nat), .int .i64 (rnL (bl s)).2.2]) ∧ Later w w' := by
 refine enter (vs := [.string s]) Tryz.func92 rfl Tryz.ntmps92 rfl ?_
 refine Zs (Zr ?_)
 refine Xa ?_
 refine Xa ?_
 refine Xa ?_
 refine Ze (Zt (Zs (Zr ?_)))
 refine Xa ?_
 refine Ze (Zt (Zs (Zr ?_)))
 refine Xa ?_
 refine Ze (Zt (Zs (Zs (Zr ?_))))
 refine Xa ?_
 refine Ze (Zt (w_block ?_))
 refine w_loop (σ := Nat) (fun i => i ≤ s.size ∧ i ≤ 10 ∧ (∀ j (hj : j < (bl s).length), j < i → 128 ≤ (bl s)[j].toNat)) (fun i => [(0, Value.string s), (5, Value.int .u64 ((gV ((bl s).take (i)) % 18446744073709551616) : Nat)), (6, Value.int .u64 ((128 ^ (i) % 18446744073709551616) : Nat)), (7, Value.int .i64 (i : Nat))]) (fun i => []) (fun i => [(w, fun _ => True)]) (fun i => 10 - i) (0) (⟨Nat.zero_le _, Nat.zero_le _, (fun j hj h => absurd h (Nat.not_lt_zero _))⟩) (l_start Zu (fun _ h => h)) ?_
 rintro i ⟨hi, hi10, hH⟩
 refine w_state ([(0, Value.string s), (5, Value.int .u64 ((gV ((bl s).take (i)) % 18446744073709551616) : Nat)), (6, Value.int .u64 ((128 ^ (i) % 18446744073709551616) : Nat)), (7, Value.int .i64 (i : Nat))]) ([]) ([(w, fun _ => True)]) ?_
 have hsl : (bl s).length = s.size := bl_len s
 refine Zs (Zs (Zr ?_))
 refine Xm ?_
 refine Xm ?_
 refine Xv rfl (v_len_str u9 rfl) ?_
 refine Xb rfl (v_lss rfl rfl) fun b12 hb12 => ?_
 refine Xm ?_
 refine Xg ?_
 refine Xj rfl rfl rfl (fun hg0 => by subst hg0; (try simp only [Qy]); exact v_lss rfl rfl) fun b15 hb15 => ?_
 refine Xb rfl (v_and rfl rfl) fun b16 hb16 => ?_
 refine Ze (Zt ?_)
 refine w_cond rfl (fun hc16 => ?_) (fun hc16 => ?_)
 ·simp only [hb16, hb15, hb12, Qz, ne_eq] at hc16
  have his : i < s.size := by omega
  have hil : i < (bl s).length := by omega
  have hi9 : i < 10 := by omega
  obtain ⟨b, hb⟩ : ∃ b, byteAt s i = b := ⟨_, rfl⟩
  have hbe : (bl s)[i] = b := by rw [bl_get hil, hb]
  have hbl := b.toNat_lt
  have hms := mod_step hil
  rw [hbe] at hms
  obtain ⟨G, hG⟩ : ∃ G, (gV ((bl s).take (i + 1)) % 18446744073709551616) = G := ⟨_, rfl⟩
  rw [hG] at hms
  have hGl : G < 18446744073709551616 := by rw [← hG]; exact Nat.mod_lt _ (by decide)
  refine w_skip (Zt (Zs (w_block (Zs (Zr ?_)))))
  refine Xm ?_
  refine Xm ?_
  refine Xm ?_
  refine Xv (v := Value.int .u8 ((b.toNat : Nat) : Int)) rfl (by rw [← hb]; exact v_index (j := i) u9 rfl rfl (by omega)) ?_
  refine Xv (v := Value.int .u8 ((b.toNat % 128 : Nat) : Int)) rfl (v_remN (b := 128) rfl rfl (by decide)) ?_
  refine Xv rfl (v_convE (c := ((b.toNat % 128 : Nat) : Int)) u5 u107 rfl (u64_wrap (by omega))) ?_
  refine Xm ?_
  refine Xv rfl (v_mulE (c := ((b.toNat % 128 * (128 ^ (i) % 18446744073709551616) % 18446744073709551616 : Nat) : Int)) rfl rfl (by rw [← Int.natCast_mul, u64_mod])) ?_
  refine Xv rfl (v_addE (c := ((G : Nat) : Int)) rfl rfl (by rw [← Int.natCast_add, u64_mod, hms])) ?_
  refine Xa ?_
  refine Ze (Zt (Zs (Zr ?_)))
  refine Xm ?_
  refine Xv rfl (v_mulE (b := 128) (c := (((128 ^ (i + 1) % 18446744073709551616) : Nat) : Int)) rfl rfl (by rw [show (((128 ^ (i) % 18446744073709551616) : Nat) : Int) * 128 = (((128 ^ (i) % 18446744073709551616) * 128 : Nat) : Int) from by rw [Int.natCast_mul]; rfl, u64_mod, Nat.mod_mul_mod, ← Nat.pow_succ])) ?_
  refine Xa ?_
  refine Ze (Zt (Zs (Zr ?_)))
  refine Xm ?_
  refine Xm ?_
  refine Xv (v := Value.int .u8 ((b.toNat : Nat) : Int)) rfl (by rw [← hb]; exact v_index (j := i) u9 rfl rfl (by omega)) ?_
  refine Xb rfl (v_lss rfl rfl) fun b33 hb33 => ?_
  refine Ze (Zt ?_)
  refine w_cond rfl (fun hc33 => ?_) (fun hc33 => ?_)
  ·simp only [hb33, Qz, ne_eq] at hc33
   have hb8 : (bl s)[i].toNat < 128 := by rw [hbe]; omega
   refine Zs (Zr ?_)
   refine Xm ?_
   refine x_callv (v := Value.string ⟨(numG G).toArray⟩) rfl rfl rfl Tryz.func59 Zk rfl (fun w1 hw1 => c_rNum G w1 hGl) ?_
   refine Xa ?_
   refine Ze (Zt (Zs (Zs (Zr ?_))))
   refine Xm ?_
   refine Xm ?_
   refine Xm ?_
   refine Xv rfl (v_addi (c := ((i + 1 : Nat) : Int)) rfl rfl (by omega) (by omega)) ?_
   refine Xv rfl (v_cut_to (j := i + 1) u9 rfl rfl (by omega)) ?_
   refine Xb rfl (v_seql rfl rfl) fun b41 hb41 => ?_
   refine Ze (Zt ?_)
   refine w_cond rfl (fun hc41 => ?_) (fun hc41 => ?_)
   ·simp only [hb41, Qz, ne_eq] at hc41
    have he : numG G = (bl s).take (i + 1) := by have h := congrArg bl hc41; rw [bl_mk, bl_ext, List.drop_zero, Nat.sub_zero] at h; exact h
    have hst := rr_yes hil hi9 hH hb8 (by rw [hG]; exact he)
    rw [hG] at hst
    refine Zs (Zr ?_)
    refine Xm ?_
    refine Xm ?_
    refine Xv rfl (v_addi (c := ((i + 1 : Nat) : Int)) rfl rfl (by omega) (by omega)) ?_
    refine Xa ?_
    refine Xa ?_
    refine Xa ?_
    refine Ze (Zt (w_ret (t_ret (b_ret (t_ret (t_ret (b_ret (t_ret ?_))))))))
    refine ret3 rfl rfl rfl rfl (fun w' hm => ⟨?_, hm.base (by simp)⟩)
    rw [hst]
   simp only [hb41, Qz, ne_eq] at hc41
   have hst := rr_no hil hi9 hH hb8 (by rw [hG]; intro h; exact hc41 (bl_inj (by rw [bl_mk, bl_ext, List.drop_zero, Nat.sub_zero]; exact h)))
   refine w_skip (Zt (Zs (Zr ?_)))
   refine Xa ?_
   refine Xa ?_
   refine Xa ?_
   refine Ze (Zt (w_ret (b_ret (t_ret (t_ret (b_ret (t_ret ?_)))))))
   refine ret3 rfl rfl rfl rfl (fun w' hm => ⟨?_, hm.base (by simp)⟩)
   rw [hst]; rfl
  simp only [hb33, Qz, ne_eq] at hc33
  have hb8 : 128 ≤ (bl s)[i].toNat := by rw [hbe]; omega
  refine w_skip (b_norm (Zt (Zr ?_)))
  refine Xm ?_
  refine Xv rfl (v_addi rfl rfl rfl Zo) ?_
  refine Xa ?_
  refine Ze ?_
  exact l_norm (i + 1) ⟨by omega, by omega, fun j hj hji => by rcases Nat.lt_succ_iff_lt_or_eq.1 hji with h | rfl; (· exact hH j hj h); exact hb8⟩ (by omega) (by rw [hG]; exact Zu) (fun _ h => h)
 simp only [hb16, hb15, hb12, Qz, ne_eq] at hc16
 have hend := rn_end (l := (bl s)) (fun j hj hj9 => hH j hj (by omega))
 refine w_exit ?_
 refine t_exit ?_
 refine t_exit ?_
 refine b_hit ?_
 refine Zt (Zs (Zs (Zr ?_)))
 refine Xm ?_
 refine Xv rfl (v_len_str u9 rfl) ?_
 refine Xb rfl (v_lss rfl rfl) fun b47 hb47 => ?_
 refine Ze (Zt ?_)
 refine w_cond rfl (fun hc47 => ?_) (fun hc47 => ?_)
 ·simp only [hb47, Qz, ne_eq] at hc47
  rw [if_pos (by omega)] at hend
  refine Zs (Zr ?_)
  refine Xa ?_
  refine Xa ?_
  refine Xa ?_
  refine Ze (Zt (w_ret (t_ret ?_)))
  refine ret3 rfl rfl rfl rfl (fun w' hm => ⟨?_, hm.base (by simp)⟩)
  rw [hend]; rfl
 simp only [hb47, Qz, ne_eq] at hc47
 rw [if_neg (by omega)] at hend
 refine w_skip (Zt (Zs (Zr ?_)))
 refine Xa ?_
 refine Xa ?_
 refine Xa ?_
 refine Ze (Zt (w_ret ?_))
 refine ret3 rfl rfl rfl rfl (fun w' hm => ⟨?_, hm.base (by simp)⟩)
 rw [hend]; rfl
theorem c_Uns (n : Nat) (w : World) (hn : n < 18446744073709551616) :
  Calls Tryz.prog 87 #[.int .u64 (n : Nat)] w fun e w' => e = .returned (.int .i64 (uns n)) ∧ Later w w' := by
 refine enter (vs := [.int .u64 (n : Nat)]) Tryz.func87 rfl Tryz.ntmps87 rfl ?_
 refine Zs (Zr ?_)
 refine Xa ?_
 refine Ze (Zt (Zs (Zr ?_)))
 refine Xm ?_
 refine Xv rfl (v_shr (c := ((n / 2 : Nat) : Int)) rfl rfl (by decide) (by show (n : Int) / 2 ^ 1 = _; omega)) ?_
 refine Xv rfl (v_convE (c := ((n / 2 : Nat) : Int)) u107 u3 rfl (wrap_in (by omega))) ?_
 refine Xm ?_
 refine Xv (v := Value.int .u64 ((n % 2 : Nat) : Int)) rfl (by rw [← and1U hn]; exact v_andK rfl rfl) ?_
 refine Xv rfl (v_convE (c := ((n % 2 : Nat) : Int)) u107 u3 rfl (wrap_in (by omega))) ?_
 refine Xv rfl (v_negI rfl) ?_
 refine Xv (v := Value.int .i64 (uns n)) rfl (by rw [← xor_uns hn]; exact v_xorK rfl rfl) ?_
 refine Xa ?_
 refine Ze (Zt (w_ret ?_))
 refine ret1 rfl rfl (fun w' hm => ⟨?_, hm.base (by simp)⟩)
 rfl
theorem c_rUns (n : Nat) (w : World) (hn : n < 18446744073709551616) :
  Calls Tryz.prog 95 #[.int .u64 (n : Nat)] w fun e w' => e = .returned (.int .i64 (uns n)) ∧ Later w w' := by
 refine enter (vs := [.int .u64 (n : Nat)]) Tryz.func95 rfl Tryz.ntmps95 rfl ?_
 refine Zs (Zr ?_)
 refine Xa ?_
 refine Ze (Zt (Zs (Zs (Zr ?_))))
 refine Xm ?_
 refine Xv (v := Value.int .u64 ((n % 2 : Nat) : Int)) rfl (v_remN (b := 2) rfl rfl (by decide)) ?_
 refine Xb rfl (v_eql rfl rfl) fun b5 hb5 => ?_
 refine Ze (Zt ?_)
 refine w_cond rfl (fun hc5 => ?_) (fun hc5 => ?_)
 ·simp only [hb5, Qz, ne_eq] at hc5
  have h2 : n % 2 = 0 := by omega
  refine Zs (Zr ?_)
  refine Xm ?_
  refine Xv rfl (v_quoE (c := ((n / 2 : Nat) : Int)) rfl rfl (by decide) (by rw [show ((n : Nat) : Int).tdiv 2 = ((n / 2 : Nat) : Int) from rfl, u64_wrap (by omega)])) ?_
  refine Xv rfl (v_convE (c := ((n / 2 : Nat) : Int)) u107 u3 rfl (wrap_in (by omega))) ?_
  refine Xa ?_
  refine Ze (Zt (w_ret (t_ret ?_)))
  refine ret1 rfl rfl (fun w' hm => ⟨?_, hm.base (by simp)⟩)
  unfold uns; rw [if_pos h2]
 simp only [hb5, Qz, ne_eq] at hc5
 have h2 : ¬n % 2 = 0 := by omega
 refine w_skip (Zt (Zs (Zr ?_)))
 refine Xm ?_
 refine Xv rfl (v_quoE (c := ((n / 2 : Nat) : Int)) rfl rfl (by decide) (by rw [show ((n : Nat) : Int).tdiv 2 = ((n / 2 : Nat) : Int) from rfl, u64_wrap (by omega)])) ?_
 refine Xv rfl (v_convE (c := ((n / 2 : Nat) : Int)) u107 u3 rfl (wrap_in (by omega))) ?_
 refine Xv rfl (v_subi (c := -1 - ((n / 2 : Nat) : Int)) rfl rfl rfl (by omega)) ?_
 refine Xa ?_
 refine Ze (Zt (w_ret ?_))
 refine ret1 rfl rfl (fun w' hm => ⟨?_, hm.base (by simp)⟩)
 unfold uns; rw [if_neg h2]
open Go.RowKit Go.PK
theorem c_in {w : World} {l2 : List (Nat × Obj)} {ro : List Snap} {bq : Nat} {te : TypeId} {rest : List Value} (left : ByteArray) (hm : Mem w ((bq, Obj.cells ((Value.string left :: Value.int .i64 0 :: rest)).toArray te (0, 0)) :: l2) ro) (hs : left.size ≤ 2000000) :
  Calls Tryz.prog 85 #[.pointer (some ⟨bq, 0, none⟩)] w fun e w' => e = .returned (.int .u64 ((inN left).1 : Nat)) ∧ Mem w' ((bq, Obj.cells ((Value.string (inN left).2.1 :: Value.int .i64 (inN left).2.2 :: rest)).toArray te (0, 0)) :: l2) ro := by
 refine enter_in hm (vs := [.pointer (some ⟨bq, 0, none⟩)]) Tryz.func85 rfl Tryz.ntmps85 rfl ?_
 refine Zs (Zr ?_)
 refine Xa ?_
 refine Ze (Zt (Zs (Zs (Zr ?_))))
 refine Xm ?_
 refine Xv rfl (v_nilCheck rfl) ?_
 refine Xv rfl (v_fieldAddr (off' := 1) u133 rfl sz36 (by decide) rfl rfl) ?_
 refine Xv rfl (v_load u36 rfl rfl (at_ownL (vs := (Value.string left :: Value.int .i64 0 :: rest)) (.head _) rfl)) ?_
 refine Xb rfl (v_neq rfl rfl) fun b10 hb10 => ?_
 refine Ze (Zt ?_)
 refine w_cond rfl (fun hc10 => ?_) (fun hc10 => ?_)
 ·cases hb10.symm.trans hc10
 skip
 refine w_skip (Zt (Zs (Zr ?_)))
 refine Xm ?_
 refine Xv rfl (v_nilCheck rfl) ?_
 refine Xv rfl (v_fieldAddr (off' := 0) u133 rfl sz9 (by decide) rfl rfl) ?_
 refine Xv rfl (v_load u9 rfl rfl (at_ownL (vs := (Value.string left :: Value.int .i64 0 :: rest)) (.head _) rfl)) ?_
 refine x_callv (v := .tuple #[.int .u64 ((rnL (bl left)).1 : Nat), .int .i64 ((rnL (bl left)).2.1 : Nat), Value.int .i64 (rnL (bl left)).2.2]) rfl rfl rfl Tryz.func112 Zk rfl (fun w1 hw1 => c_RN left w1 hs) ?_
 have hrl := rn_le (bl left)
 rw [bl_len] at hrl
 refine Xm ?_
 refine Xv rfl (v_extract rfl rfl) ?_
 refine Xv rfl (v_extract rfl rfl) ?_
 refine Xv rfl (v_extract rfl rfl) ?_
 refine Xa ?_
 refine Xa ?_
 refine Xa ?_
 refine Ze (Zt (Zs (Zr ?_)))
 refine Xm ?_
 refine Xm ?_
 refine Xm ?_
 refine Xv rfl (v_nilCheck rfl) ?_
 refine Xv rfl (v_fieldAddr (off' := 0) u133 rfl sz9 (by decide) rfl rfl) ?_
 refine Xv rfl (v_load u9 rfl rfl (at_ownL (vs := (Value.string left :: Value.int .i64 0 :: rest)) (.head _) rfl)) ?_
 refine Xm ?_
 refine Xv rfl (v_cut_from (i := (rnL (bl left)).2.1) u9 rfl rfl (by omega)) ?_
 refine Xm ?_
 refine Xv rfl (v_nilCheck rfl) ?_
 refine Xv rfl (v_fieldAddr (off' := 0) u133 rfl sz9 (by decide) rfl rfl) ?_
 refine x_store (cs := (Value.string left :: Value.int .i64 0 :: rest)) (off := 0) (e := te) (l2 := l2) [] rfl rfl rfl rfl sz9 rfl (by simp) ?_
 refine Xv rfl (v_nilCheck rfl) ?_
 refine Xv rfl (v_fieldAddr (off' := 1) u133 rfl sz36 (by decide) rfl rfl) ?_
 refine x_store (cs := (Value.string (inN left).2.1 :: Value.int .i64 0 :: rest)) (off := 1) (e := te) (l2 := l2) [] rfl rfl rfl rfl sz36 rfl (by simp) ?_
 refine Ze (Zt (Zs (Zr ?_)))
 refine Xm ?_
 refine Xa ?_
 refine Ze (Zt (w_ret ?_))
 exact ret1 rfl rfl (fun w' hm => ⟨rfl, hm.less (List.Sublist.refl _) (fun s hs => by repeat (first | exact hs | apply List.mem_cons_of_mem))⟩)
theorem ap9 : (Tryz.prog.info? 9).map (fun j => (j.zero, j.size, j.bytes)) = some (some (.string ⟨#[]⟩), 1, 16) := by kernel_rfl
set_option maxHeartbeats 1000000 in
theorem c_next {w : World} {l2 : List (Nat × Obj)} {ro : List Snap} {bq : Nat} {R : RowS} (left : ByteArray) (out : List ByteArray) (hm : Mem w ((bq, Obj.cells ([Value.string left, Value.int .i64 0, rowV R out.length]).toArray 135 (0, 0)) :: (rowO 9 R ++ l2)) ro) (hR : rowOK 1 R out.length (out.map Value.string)) (hs : left.size ≤ 2000000) (hol : out.length ≤ 2000000) :
  Calls Tryz.prog 86 #[.pointer (some ⟨bq, 0, none⟩)] w fun e w' => e = .returned (.tuple #[]) ∧ ∃ R', rowOK 1 R' (nxQ left out).2.2.length ((nxQ left out).2.2.map Value.string) ∧ Mem w' ((bq, Obj.cells ([Value.string (nxQ left out).1, Value.int .i64 (nxQ left out).2.1, rowV R' (nxQ left out).2.2.length]).toArray 135 (0, 0)) :: (rowO 9 R' ++ l2)) ro := by
 refine enter_in hm (vs := [.pointer (some ⟨bq, 0, none⟩)]) Tryz.func86 rfl Tryz.ntmps86 rfl ?_
 refine Zs (Zr ?_)
 refine Xm ?_
 refine Xv rfl (v_nilCheck rfl) ?_
 refine Xv rfl (v_fieldAddr (off' := 0) u135 rfl sz133 (by decide) rfl rfl) ?_
 refine x_turnf (τ := Unit) (v := Value.int .u64 ((inN left).1 : Nat)) (fun _ => True) (fun _ => (bq, Obj.cells ([Value.string (inN left).2.1, Value.int .i64 (inN left).2.2, rowV R out.length]).toArray 135 (0, 0)) :: (rowO 9 R ++ l2)) rfl rfl Tryz.func85 Zk rfl (fun w1 hw1 => (c_in (te := 135) (rest := [rowV R out.length]) left hw1 hs).mono fun e w2 ⟨h1, h2⟩ => ⟨h1, (), trivial, h2⟩) fun _ _ => ?_
 have hle := in_le left
 obtain ⟨e1, he1⟩ : ∃ e1, (inN left).2.2 = e1 := ⟨_, rfl⟩
 obtain ⟨l1, hl1⟩ : ∃ l1, (inN left).2.1 = l1 := ⟨_, rfl⟩
 obtain ⟨nn, hnn⟩ : ∃ nn, (inN left).1 = nn := ⟨_, rfl⟩
 rw [hl1, hnn] at hle
 rw [he1, hl1, hnn]
 refine Xa ?_
 refine Ze (Zt (w_block (Zs (Zr ?_))))
 refine Xm ?_
 refine Xv rfl (v_nilCheck rfl) ?_
 refine Xv rfl (v_fieldAddr (off' := 0) u135 rfl sz133 (by decide) rfl rfl) ?_
 refine Xv rfl (v_fieldAddr (off' := 1) u133 rfl sz36 (by decide) rfl rfl) ?_
 refine Xv rfl (v_load u36 rfl rfl (at_ownL (vs := [Value.string l1, Value.int .i64 e1, rowV R out.length]) Zh rfl)) ?_
 refine Xb rfl (v_neq rfl rfl) fun b40 hb40 => ?_
 refine Xa ?_
 refine Ze (Zt ?_)
 refine w_cond rfl (fun hc34 => ?_) (fun hc34 => ?_)
 ·have hne : e1 ≠ 0 := by rw [hb40] at hc34; exact of_decide_eq_true hc34
  have hN : nxQ left out = (l1, e1, out) := by unfold nxQ; rw [he1, hl1, if_pos hne]
  refine w_skip (b_norm ?_)
  exact ret0 rfl (fun w' hm => ⟨rfl, R, by rw [hN]; exact hR, by rw [hN]; exact hm⟩)
 obtain rfl : e1 = 0 := by rw [hb40] at hc34; have := of_decide_eq_false hc34; omega
 refine Zs (Zr ?_)
 refine Xm ?_
 refine Xm ?_
 refine Xv rfl (v_nilCheck rfl) ?_
 refine Xv rfl (v_fieldAddr (off' := 0) u135 rfl sz133 (by decide) rfl rfl) ?_
 refine Xv rfl (v_fieldAddr (off' := 0) u133 rfl sz9 (by decide) rfl rfl) ?_
 refine Xv rfl (v_load u9 rfl rfl (at_ownL (vs := [Value.string l1, Value.int .i64 0, rowV R out.length]) Zh rfl)) ?_
 refine Xv rfl (v_len_str u9 rfl) ?_
 refine Xv rfl (v_convE (c := ((l1.size : Nat) : Int)) u3 u107 rfl (u64_wrap (by omega))) ?_
 refine Xb rfl (v_gtr rfl rfl) fun b50 hb50 => ?_
 refine Xa ?_
 refine Ze (Zt ?_)
 refine w_cond rfl (fun hc41 => ?_) (fun hc41 => ?_)
 ·have hgt : l1.size < nn := by rw [hb50] at hc41; have := of_decide_eq_true hc41; omega
  have hN : nxQ left out = (l1, 10, out) := by unfold nxQ; rw [he1, hl1, hnn, if_neg (fun h => h rfl), if_pos hgt]
  refine Zr ?_
  refine Xm ?_
  refine Xv rfl (v_nilCheck rfl) ?_
  refine Xv rfl (v_fieldAddr (off' := 0) u135 rfl sz133 (by decide) rfl rfl) ?_
  refine Xv rfl (v_fieldAddr (off' := 1) u133 rfl sz36 (by decide) rfl rfl) ?_
  refine x_store (cs := [Value.string l1, Value.int .i64 0, rowV R out.length]) (off := 1) (e := 135) (l2 := rowO 9 R ++ l2) [] rfl rfl rfl rfl sz36 rfl (by show 2 ≤ 3; decide) ?_
  refine Ze (b_norm ?_)
  exact ret0 rfl (fun w' hm => ⟨rfl, R, by rw [hN]; exact hR, by rw [hN]; exact hm⟩)
 have hgt : nn ≤ l1.size := by rw [hb50] at hc41; have := of_decide_eq_false hc41; omega
 have hN : nxQ left out = (l1.extract nn l1.size, 0, out ++ [l1.extract 0 nn]) := by unfold nxQ; rw [he1, hl1, hnn, if_neg (fun h => h rfl), if_neg (by omega)]
 have hoz : (l1.extract 0 nn).size ≤ 2000000 := by rw [ByteArray.size_extract]; omega
 refine Zs ?_
 refine rg_inv ([(bq, Obj.cells ([Value.string l1, Value.int .i64 0, rowV R out.length]).toArray 135 (0, 0))]) 16 (.flt 0 (.flt 1 (.flt 2 (.flt 3 (.flt 4 (.flt 5 (.flt 6 (.flt 7 (.flt 8 (.flt 9 (.flt 10 (.flt 11 (.gr 12 (.gr 13 (.flt 14 (.flt 15 .done)) .nil) .nil))))))))))))) (by repeat (first | exact (List.nil_sublist _).cons_cons _ | apply List.Sublist.cons)) Zk Zk ?_
 refine j_val rfl rfl (v_move rfl) ?_
 refine j_val rfl rfl (v_move rfl) ?_
 refine j_val rfl rfl (v_nilCheck rfl) ?_
 refine j_val rfl rfl (v_fieldAddr (off' := 2) u135 rfl sz55 (by decide) rfl rfl) ?_
 refine j_val rfl rfl (v_load u55 rfl rfl (at_ownL (vs := [Value.string l1, Value.int .i64 0, rowV R out.length]) Zh rfl)) ?_
 refine j_val rfl rfl (v_move rfl) ?_
 refine j_val rfl rfl (v_nilCheck rfl) ?_
 refine j_val rfl rfl (v_fieldAddr (off' := 0) u135 rfl sz133 (by decide) rfl rfl) ?_
 refine j_val rfl rfl (v_fieldAddr (off' := 0) u133 rfl sz9 (by decide) rfl rfl) ?_
 refine j_val rfl rfl (v_load u9 rfl rfl (at_ownL (vs := [Value.string l1, Value.int .i64 0, rowV R out.length]) Zh rfl)) ?_
 refine j_val rfl rfl (v_move rfl) ?_
 refine j_val rfl rfl (v_cut_to (j := nn) u9 rfl rfl (by omega)) ?_
 refine j_gr ?_ j_nil
 refine x_buildSliceL (cs := [Value.string (l1.extract 0 nn)]) rfl rfl rfl u55 sz9 zr9 rfl rfl rfl ?_
 intro p19
 refine Ze ?_
 refine j_end (by repeat (first | exact (List.nil_sublist _).cons_cons _ | apply List.Sublist.cons)) ?_
 refine j_gr ?_ j_nil
 refine x_append (e := 9) [(p19, Obj.cells [Value.string (l1.extract 0 nn)].toArray 9), (bq, Obj.cells ([Value.string l1, Value.int .i64 0, rowV R out.length]).toArray 135 (0, 0))] (l2 := l2) R (len := out.length) (xs := out.map Value.string) rfl rfl rfl rfl (by simp [List.append_assoc]) hR u55 ap9 rfl rfl (m := 1) (news := [Value.string (l1.extract 0 nn)]) (fun i hi => at_ownL (vs := [Value.string (l1.extract 0 nn)]) (.head _) (by rw [Nat.zero_add]; exact List.getElem?_eq_getElem hi)) rfl Zx (by omega) fun R' hR' => ?_
 refine Ze ?_
 refine j_end (by repeat (first | exact (List.nil_sublist _).cons_cons _ | apply List.Sublist.cons)) ?_
 refine j_val rfl rfl (v_nilCheck rfl) ?_
 refine j_val rfl rfl (v_fieldAddr (off' := 2) u135 rfl sz55 (by decide) rfl rfl) ?_
 refine j_done ?_
 refine x_store (cs := [Value.string l1, Value.int .i64 0, rowV R out.length]) (off := 2) (e := 135) (l2 := rowO 9 R' ++ l2) [(p19, Obj.cells [Value.string (l1.extract 0 nn)].toArray 9)] rfl rfl rfl (by simp [List.append_assoc]) sz55 rfl (by show 3 ≤ 3; decide) ?_
 refine Ze (Zt (Zr ?_))
 refine Xm ?_
 refine Xm ?_
 refine Xv rfl (v_nilCheck rfl) ?_
 refine Xv rfl (v_fieldAddr (off' := 0) u135 rfl sz133 (by decide) rfl rfl) ?_
 refine Xv rfl (v_fieldAddr (off' := 0) u133 rfl sz9 (by decide) rfl rfl) ?_
 refine Xv rfl (v_load u9 rfl rfl (at_ownL (vs := [Value.string l1, Value.int .i64 0, rowV R' (out.length + 1)]) Zh rfl)) ?_
 refine Xm ?_
 refine Xv rfl (v_cut_from (i := nn) u9 rfl rfl (by omega)) ?_
 refine Xv rfl (v_nilCheck rfl) ?_
 refine Xv rfl (v_fieldAddr (off' := 0) u135 rfl sz133 (by decide) rfl rfl) ?_
 refine Xv rfl (v_fieldAddr (off' := 0) u133 rfl sz9 (by decide) rfl rfl) ?_
 refine x_store (cs := [Value.string l1, Value.int .i64 0, rowV R' (out.length + 1)]) (off := 0) (e := 135) (l2 := rowO 9 R' ++ l2) [(p19, Obj.cells [Value.string (l1.extract 0 nn)].toArray 9)] rfl rfl rfl rfl sz9 rfl (by show 1 ≤ 3; decide) ?_
 refine Ze (b_norm ?_)
 refine ret0 rfl (fun w' hm => ⟨rfl, R', ?_, ?_⟩)
 ·rw [hN]; dsimp only; rw [List.length_append, List.map_append]; exact hR'
 rw [hN]; dsimp only; rw [List.length_append]; exact hm.less (List.sublist_cons_self _ _) (fun _ h => h)
open Go.RowKit Go.PK
set_option maxHeartbeats 1000000 in
theorem c_Unp (s : ByteArray) (w : World) (hs : s.size ≤ 2000000) :
  Calls Tryz.prog 56 #[.string s] w fun e w' => ∃ v, e = .returned (.tuple #[v, Value.int .i64 (unpQ s).2]) ∧ Later w w' ∧ sliceRd tyStr (fun b => w.heap.size ≤ b) w' v (unpQ s).1 := by
 refine enter (vs := [.string s]) Tryz.func56 rfl Tryz.ntmps56 rfl ?_
 refine Zs (Zr ?_)
 refine Xa ?_
 refine Xa ?_
 refine Ze (Zt (Zs (Zr ?_)))
 refine Xm ?_
 refine Xv (v := Value.agg #[.string s, Value.int .i64 0]) rfl (v_buildL (places := [(0, 1), (1, 1)]) u133 zr133 Zk rfl rfl) ?_
 refine Xv (v := Value.agg #[.string s, Value.int .i64 0, .slice none 0 0]) rfl (v_buildL (places := [(0, 2), (2, 1)]) u135 zr135 Zk rfl rfl) ?_
 refine x_box rfl rfl rfl rfl ?_
 intro p10
 refine Xa ?_
 refine Ze (Zt (Zs (Zr ?_)))
 refine Xm ?_
 refine Xv rfl (v_nilCheck rfl) ?_
 refine Xv rfl (v_fieldAddr (off' := 0) u135 rfl sz133 (by decide) rfl rfl) ?_
 refine x_turnf (τ := Unit) (v := Value.int .u64 ((inN s).1 : Nat)) (fun _ => True) (fun _ => [(p10, Obj.cells ([Value.string (inN s).2.1, Value.int .i64 (inN s).2.2, rowV none 0]).toArray 135 (0, 0))]) rfl rfl Tryz.func85 Zk rfl (fun w1 hw1 => (c_in (te := 135) (rest := [Value.slice none 0 0]) (l2 := []) s (hw1.to rfl) hs).mono fun e w2 ⟨h1, h2⟩ => ⟨h1, (), trivial, h2⟩) fun _ _ => ?_
 have hl0 := (in_le s).1
 have hmy := (in_le s).2
 obtain ⟨RES, hRES⟩ : ∃ q, (unS (inN s).1 (inN s).2.1 (inN s).2.2 []) = q := ⟨_, rfl⟩
 have hup : unpQ s = finU RES := by rw [unp_eq, hRES]
 obtain ⟨e0, he0⟩ : ∃ e0, (inN s).2.2 = e0 := ⟨_, rfl⟩
 obtain ⟨l0, hl0e⟩ : ∃ l0, (inN s).2.1 = l0 := ⟨_, rfl⟩
 obtain ⟨many, hme⟩ : ∃ m, (inN s).1 = m := ⟨_, rfl⟩
 rw [hl0e] at hl0
 rw [hme] at hmy
 rw [hme, hl0e, he0] at hRES
 rw [hme, hl0e, he0]
 refine Xa ?_
 refine Ze (Zt (Zs (Zs (Zr ?_))))
 refine Xa ?_
 refine Ze (Zt (w_block ?_))
 refine w_loop (σ := Nat × ByteArray × Int × List ByteArray × RowS) (fun x => x.1 ≤ many ∧ x.2.1.size + x.2.2.2.1.length ≤ s.size ∧ (∀ y ∈ x.2.2.2.1, y.size ≤ s.size) ∧ rowOK 1 x.2.2.2.2 x.2.2.2.1.length (x.2.2.2.1.map Value.string) ∧ unS (many - x.1) x.2.1 x.2.2.1 x.2.2.2.1 = RES) (fun x => [(0, Value.string s), (4, Value.pointer (some ⟨p10, 0, none⟩)), (5, Value.int .u64 (many : Nat)), (6, Value.int .u64 (x.1 : Nat))]) (fun x => (p10, Obj.cells ([Value.string x.2.1, Value.int .i64 x.2.2.1, rowV x.2.2.2.2 x.2.2.2.1.length]).toArray 135 (0, 0)) :: rowO 9 x.2.2.2.2) (fun x => [(w, fun _ => True)]) (fun x => if x.2.2.1 = 0 then x.2.1.size + 1 else 0) ((0, l0, e0, [], none)) (⟨Nat.zero_le _, (by dsimp only; simpa using hl0), (fun y hy => by cases hy), rowOK_nil, hRES⟩) (l_start Zu (fun _ h => h)) ?_
 rintro ⟨i, left, e, out, R⟩ ⟨him, hsz, hal, hR, hU⟩
 refine w_state ([(0, Value.string s), (4, Value.pointer (some ⟨p10, 0, none⟩)), (5, Value.int .u64 (many : Nat)), (6, Value.int .u64 (i : Nat))]) ((p10, Obj.cells ([Value.string left, Value.int .i64 e, rowV R out.length]).toArray 135 (0, 0)) :: rowO 9 R) ([(w, fun _ => True)]) ?_
 dsimp only at him hsz hal hR hU
 refine Zs (Zs (Zr ?_))
 refine Xm ?_
 refine Xm ?_
 refine Xb rfl (v_lss rfl rfl) fun b17 hb17 => ?_
 refine Xm ?_
 refine Xg ?_
 refine Xi rfl rfl rfl (fun hg0 => by subst hg0; (try simp only [Qy]); exact v_nilCheck rfl) ?_
 refine Xi rfl rfl rfl (fun hg0 => by subst hg0; (try simp only [Qy]); exact v_fieldAddr (off' := 0) u135 rfl sz133 (by decide) rfl rfl) ?_
 refine Xi rfl rfl rfl (fun hg0 => by subst hg0; (try simp only [Qy]); exact v_fieldAddr (off' := 1) u133 rfl sz36 (by decide) rfl rfl) ?_
 refine Xi rfl rfl rfl (fun hg0 => by subst hg0; (try simp only [Qy]); exact v_load u36 rfl rfl (at_ownL (vs := [Value.string left, Value.int .i64 e, rowV R out.length]) Zh rfl)) ?_
 refine Xj rfl rfl rfl (fun hg0 => by subst hg0; (try simp only [Qy]); exact v_eql rfl rfl) fun b24 hb24 => ?_
 refine Xb rfl (v_and rfl rfl) fun b25 hb25 => ?_
 refine Ze (Zt ?_)
 refine w_cond rfl (fun hc25 => ?_) (fun hc25 => ?_)
 ·simp only [hb25, hb24, hb17, Qz, ne_eq] at hc25
  obtain ⟨hil, hez⟩ : i < many ∧ e = 0 := ⟨by have := hc25.1; omega, hc25.2⟩
  subst hez
  rw [unS_step hil] at hU
  obtain hnx := nx_case left out
  refine w_skip (Zt (Zs (w_block (Zr ?_))))
  refine Xm ?_
  refine x_turnf (τ := RowS) (v := .tuple #[]) (fun R' => rowOK 1 R' (nxQ left out).2.2.length ((nxQ left out).2.2.map Value.string)) (fun R' => (p10, Obj.cells ([Value.string (nxQ left out).1, Value.int .i64 (nxQ left out).2.1, rowV R' (nxQ left out).2.2.length]).toArray 135 (0, 0)) :: (rowO 9 R' ++ [])) rfl rfl Tryz.func86 Zk rfl (fun w1 hw1 => c_next (l2 := []) left out (hw1.to (by simp)) hR (by omega) (by omega)) fun R' hR' => ?_
  refine Ze (b_norm (Zt (Zr ?_)))
  refine Xm ?_
  refine Xv rfl (v_addE (c := ((i + 1 : Nat) : Int)) rfl rfl (by rw [u64_wrap (by omega)]; omega)) ?_
  refine Xa ?_
  refine Ze ?_
  refine l_norm (x := (i, left, 0, out, R)) (μ := fun x : Nat × ByteArray × Int × List ByteArray × RowS => if x.2.2.1 = 0 then x.2.1.size + 1 else 0) (i + 1, (nxQ left out).1, (nxQ left out).2.1, (nxQ left out).2.2, R') ⟨hil, ?_, nx_sz (by omega) hal, hR', hU⟩ ?_ Zu (fun _ h => h.to (by simp))
  ·dsimp only; rcases hnx with ⟨c1, c2, c3, c4, c5⟩ | ⟨c1, c2, c3⟩; (· omega); rw [c2]; omega
  dsimp only; rcases hnx with ⟨c1, c2, c3, c4, c5⟩ | ⟨c1, c2, c3⟩; (· rw [if_pos c1, if_pos rfl]; omega); rw [if_neg c1, if_pos rfl]; omega
 simp only [hb25, hb24, hb17, Qz, ne_eq] at hc25
 have hE := unS_end (m := many) (i := i) (l := left) (e := e) (out := out) (by rcases hc25 with h | h; (· exact .inl (by omega)); exact .inr h)
 rw [hU] at hE
 rw [hE] at hup
 refine w_exit ?_
 refine t_exit ?_
 refine t_exit ?_
 refine b_hit ?_
 refine Zt (Zs (Zs (Zr ?_)))
 refine Xm ?_
 refine Xv rfl (v_nilCheck rfl) ?_
 refine Xv rfl (v_fieldAddr (off' := 0) u135 rfl sz133 (by decide) rfl rfl) ?_
 refine Xv rfl (v_fieldAddr (off' := 1) u133 rfl sz36 (by decide) rfl rfl) ?_
 refine Xv rfl (v_load u36 rfl rfl (at_ownL (vs := [Value.string left, Value.int .i64 e, rowV R out.length]) Zh rfl)) ?_
 refine Xb rfl (v_eql rfl rfl) fun b35 hb35 => ?_
 refine Xm ?_
 refine Xg ?_
 refine Xi rfl rfl rfl (fun hg0 => by subst hg0; (try simp only [Qy]); exact v_nilCheck rfl) ?_
 refine Xi rfl rfl rfl (fun hg0 => by subst hg0; (try simp only [Qy]); exact v_fieldAddr (off' := 0) u135 rfl sz133 (by decide) rfl rfl) ?_
 refine Xi rfl rfl rfl (fun hg0 => by subst hg0; (try simp only [Qy]); exact v_fieldAddr (off' := 0) u133 rfl sz9 (by decide) rfl rfl) ?_
 refine Xi rfl rfl rfl (fun hg0 => by subst hg0; (try simp only [Qy]); exact v_load u9 rfl rfl (at_ownL (vs := [Value.string left, Value.int .i64 e, rowV R out.length]) Zh rfl)) ?_
 refine Xj rfl rfl rfl (fun hg0 => by subst hg0; (try simp only [Qy]); exact v_sneq rfl rfl) fun b42 hb42 => ?_
 refine Xb rfl (v_and rfl rfl) fun b43 hb43 => ?_
 refine Ze (Zt ?_)
 refine w_cond rfl (fun hc43 => ?_) (fun hc43 => ?_)
 ·simp only [hb43, hb42, hb35, Qz, ne_eq] at hc43
  obtain ⟨hez, hln⟩ := hc43
  subst hez
  rw [fin_more hln] at hup
  have hF := hup
  refine Zr ?_
  refine Xm ?_
  refine Xv rfl (v_nilCheck rfl) ?_
  refine Xv rfl (v_fieldAddr (off' := 0) u135 rfl sz133 (by decide) rfl rfl) ?_
  refine Xv rfl (v_fieldAddr (off' := 1) u133 rfl sz36 (by decide) rfl rfl) ?_
  refine x_store (cs := [Value.string left, Value.int .i64 0, rowV R out.length]) (off := 1) (e := 135) (l2 := rowO 9 R) [] rfl rfl rfl rfl sz36 rfl (by show 2 ≤ 3; decide) ?_
  refine Ze (Zt (Zs (Zs (Zr ?_))))
  refine Xm ?_
  refine Xv rfl (v_nilCheck rfl) ?_
  refine Xv rfl (v_fieldAddr (off' := 0) u135 rfl sz133 (by decide) rfl rfl) ?_
  refine Xv rfl (v_fieldAddr (off' := 1) u133 rfl sz36 (by decide) rfl rfl) ?_
  refine Xv rfl (v_load u36 rfl rfl (at_ownL (vs := [Value.string left, Value.int .i64 11, rowV R out.length]) Zh rfl)) ?_
  refine Xb rfl (v_neq rfl rfl) fun b53 hb53 => ?_
  refine Ze (Zt ?_)
  refine w_cond rfl (fun hc53 => ?_) (fun hc53 => ?_)
  ·skip
   refine Zs ?_
   refine rg_draw 7 [(true, 0), (true, 1), (true, 2), (true, 3), (true, 4), (true, 5), (true, 6)] Zk Zk ?_
   refine Xm ?_
   refine Xv rfl (v_nilCheck rfl) ?_
   refine Xv rfl (v_fieldAddr (off' := 0) u135 rfl sz133 (by decide) rfl rfl) ?_
   refine Xv rfl (v_fieldAddr (off' := 1) u133 rfl sz36 (by decide) rfl rfl) ?_
   refine Xv rfl (v_load u36 rfl rfl (at_ownL (vs := [Value.string left, Value.int .i64 11, rowV R out.length]) Zh rfl)) ?_
   refine Xa ?_
   refine Xa ?_
   refine Ze (Zt (w_ret (t_ret ?_)))
   refine ret2 rfl rfl rfl (fun w' hm => ⟨_, by rw [hF] <;> rfl, hm.base (by simp), by rw [hF]; exact ⟨none, 0, rfl, Nat.le_refl _, Nat.zero_le _, fun h => absurd h (Nat.lt_irrefl 0)⟩⟩)
  simp [hb53] at hc53
 simp only [hb43, hb42, hb35, Qz, ne_eq] at hc43
 refine w_skip (Zt (Zs (Zs (Zr ?_))))
 refine Xm ?_
 refine Xv rfl (v_nilCheck rfl) ?_
 refine Xv rfl (v_fieldAddr (off' := 0) u135 rfl sz133 (by decide) rfl rfl) ?_
 refine Xv rfl (v_fieldAddr (off' := 1) u133 rfl sz36 (by decide) rfl rfl) ?_
 refine Xv rfl (v_load u36 rfl rfl (at_ownL (vs := [Value.string left, Value.int .i64 e, rowV R out.length]) Zh rfl)) ?_
 refine Xb rfl (v_neq rfl rfl) fun b53 hb53 => ?_
 refine Ze (Zt ?_)
 refine w_cond rfl (fun hc53 => ?_) (fun hc53 => ?_)
 ·have hez : e ≠ 0 := by rw [hb53] at hc53; exact of_decide_eq_true hc53
  rw [fin_err hez] at hup
  have hF := hup
  refine Zs ?_
  refine rg_draw 7 [(true, 0), (true, 1), (true, 2), (true, 3), (true, 4), (true, 5), (true, 6)] Zk Zk ?_
  refine Xm ?_
  refine Xv rfl (v_nilCheck rfl) ?_
  refine Xv rfl (v_fieldAddr (off' := 0) u135 rfl sz133 (by decide) rfl rfl) ?_
  refine Xv rfl (v_fieldAddr (off' := 1) u133 rfl sz36 (by decide) rfl rfl) ?_
  refine Xv rfl (v_load u36 rfl rfl (at_ownL (vs := [Value.string left, Value.int .i64 e, rowV R out.length]) Zh rfl)) ?_
  refine Xa ?_
  refine Xa ?_
  refine Ze (Zt (w_ret (t_ret ?_)))
  refine ret2 rfl rfl rfl (fun w' hm => ⟨_, by rw [hF] <;> rfl, hm.base (by simp), by rw [hF]; exact ⟨none, 0, rfl, Nat.le_refl _, Nat.zero_le _, fun h => absurd h (Nat.lt_irrefl 0)⟩⟩)
 obtain rfl : e = 0 := by rw [hb53] at hc53; have := of_decide_eq_false hc53; omega
 have hln : left = ⟨#[]⟩ := by rcases hc43 with h | h; (· exact absurd rfl h); exact h
 rw [hln, fin_ok] at hup
 have hF := hup
 refine w_skip (Zt (Zs (Zr ?_)))
 refine Xm ?_
 refine Xv rfl (v_nilCheck rfl) ?_
 refine Xv rfl (v_fieldAddr (off' := 2) u135 rfl sz55 (by decide) rfl rfl) ?_
 refine Xv rfl (v_load u55 rfl rfl (at_ownL (vs := [Value.string left, Value.int .i64 0, rowV R out.length]) Zh rfl)) ?_
 refine Xa ?_
 refine Xa ?_
 refine Ze (Zt (w_ret ?_))
 refine ret2 rfl rfl rfl (fun w' hm => ⟨rowV R out.length, by rw [hF], hm.base (by simp), ?_⟩)
 rw [hF]
 exact row1_rd (T := tyStr) (e := 9) Value.string rfl hR rfl (fun D9 w9 y hy => ⟨rfl, by have := hal y hy; unfold okS; omega⟩) hm (fun q hq => by simp [hq]) (fun q hq => hm.newer (by simp) (by simp [hq]))
open Go.RowKit Go.PK
attribute [local irreducible] WX
set_option maxHeartbeats 1000000 in
theorem c_RI (s : ByteArray) (w : World) (hs : s.size ≤ 2000000) :
  Calls Tryz.prog 57 #[.string s] w fun e w' => ∃ v, e = .returned (.tuple #[v, Value.int .i64 (riQ s).2]) ∧ Later w w' ∧ sliceRd tyI (fun b => w.heap.size ≤ b) w' v (riQ s).1 := by
 refine enter (vs := [.string s]) Tryz.func57 rfl Tryz.ntmps57 rfl ?_
 refine Zs (Zr ?_)
 refine Xa ?_
 refine Xa ?_
 refine Ze (Zt (Zs (Zr ?_)))
 refine Xm ?_
 refine Xv (v := Value.agg #[.string s, Value.int .i64 0]) rfl (v_buildL (places := [(0, 1), (1, 1)]) u133 zr133 Zk rfl rfl) ?_
 refine x_box rfl rfl rfl rfl ?_
 intro p10
 refine Xa ?_
 refine Ze (Zt (Zs (Zr ?_)))
 refine Xm ?_
 refine x_turnf (τ := Unit) (v := Value.int .u64 ((inN s).1 : Nat)) (fun _ => True) (fun _ => [(p10, Obj.cells ([Value.string (inN s).2.1, Value.int .i64 (inN s).2.2]).toArray 133 (0, 0))]) rfl rfl Tryz.func85 Zk rfl (fun w1 hw1 => (c_in (te := 133) (rest := []) (l2 := []) s (hw1.to rfl) hs).mono fun e w2 ⟨h1, h2⟩ => ⟨h1, (), trivial, h2⟩) fun _ _ => ?_
 have hl0 := (in_le s).1
 have hmy := (in_le s).2
 obtain ⟨RES, hRES⟩ : ∃ q, (riS (inN s).1 (inN s).2.1 (inN s).2.2 []) = q := ⟨_, rfl⟩
 have hup : riQ s = finU RES := by rw [riq_eq, hRES]
 obtain ⟨e0, he0⟩ : ∃ e0, (inN s).2.2 = e0 := ⟨_, rfl⟩
 obtain ⟨l0, hl0e⟩ : ∃ l0, (inN s).2.1 = l0 := ⟨_, rfl⟩
 obtain ⟨many, hme⟩ : ∃ m, (inN s).1 = m := ⟨_, rfl⟩
 rw [hl0e] at hl0
 rw [hme] at hmy
 rw [hme, hl0e, he0] at hRES
 rw [hme, hl0e, he0]
 refine Xa ?_
 refine Ze (Zt (Zs (Zr ?_)))
 refine Xa ?_
 refine Ze (Zt (Zs (Zs (Zr ?_))))
 refine Xa ?_
 refine Ze (Zt (w_block ?_))
 refine w_loop (σ := Nat × ByteArray × Int × List Int × RowS) (fun x => x.1 ≤ many ∧ x.2.1.size + x.2.2.2.1.length ≤ s.size + (if x.2.2.1 = 0 then 0 else 1) ∧ (∀ d ∈ x.2.2.2.1, in64 d) ∧ rowOK 1 x.2.2.2.2 x.2.2.2.1.length (x.2.2.2.1.map (Value.int .i64)) ∧ riS (many - x.1) x.2.1 x.2.2.1 x.2.2.2.1 = RES) (fun x => [(0, Value.string s), (4, Value.pointer (some ⟨p10, 0, none⟩)), (5, Value.int .u64 (many : Nat)), (6, rowV x.2.2.2.2 x.2.2.2.1.length), (7, Value.int .u64 (x.1 : Nat))]) (fun x => (p10, Obj.cells ([Value.string x.2.1, Value.int .i64 x.2.2.1]).toArray 133 (0, 0)) :: rowO 3 x.2.2.2.2) (fun x => [(w, fun _ => True)]) (fun x => if x.2.2.1 = 0 then x.2.1.size + 1 else 0) ((0, l0, e0, [], none)) (⟨Nat.zero_le _, (by dsimp only; rw [List.length_nil]; omega), (fun y hy => by cases hy), rowOK_nil, hRES⟩) (l_start Zu (fun _ h => h)) ?_
 rintro ⟨i, left, e, out, R⟩ ⟨him, hsz, hal, hR, hU⟩
 refine w_state ([(0, Value.string s), (4, Value.pointer (some ⟨p10, 0, none⟩)), (5, Value.int .u64 (many : Nat)), (6, rowV R out.length), (7, Value.int .u64 (i : Nat))]) ((p10, Obj.cells ([Value.string left, Value.int .i64 e]).toArray 133 (0, 0)) :: rowO 3 R) ([(w, fun _ => True)]) ?_
 dsimp only at him hsz hal hR hU
 refine Zs (Zs (Zr ?_))
 refine Xm ?_
 refine Xm ?_
 refine Xb rfl (v_lss rfl rfl) fun b15 hb15 => ?_
 refine Xm ?_
 refine Xg ?_
 refine Xi rfl rfl rfl (fun hg0 => by subst hg0; (try simp only [Qy]); exact v_nilCheck rfl) ?_
 refine Xi rfl rfl rfl (fun hg0 => by subst hg0; (try simp only [Qy]); exact v_fieldAddr (off' := 1) u133 rfl sz36 (by decide) rfl rfl) ?_
 refine Xi rfl rfl rfl (fun hg0 => by subst hg0; (try simp only [Qy]); exact v_load u36 rfl rfl (at_ownL (vs := [Value.string left, Value.int .i64 e]) Zh rfl)) ?_
 refine Xj rfl rfl rfl (fun hg0 => by subst hg0; (try simp only [Qy]); exact v_eql rfl rfl) fun b21 hb21 => ?_
 refine Xb rfl (v_and rfl rfl) fun b22 hb22 => ?_
 refine Ze (Zt ?_)
 refine w_cond rfl (fun hc22 => ?_) (fun hc22 => ?_)
 ·simp only [hb22, hb21, hb15, Qz, ne_eq] at hc22
  obtain ⟨hil, hez⟩ : i < many ∧ e = 0 := ⟨by have := hc22.1; omega, hc22.2⟩
  subst hez
  rw [riS_step hil] at hU
  have hle := in_le left
  rw [if_pos rfl] at hsz
  refine w_skip (Zt (Zs (w_block (Zr ?_))))
  refine Xm ?_
  refine Xm ?_
  refine x_turnf (τ := Unit) (v := Value.int .u64 ((inN left).1 : Nat)) (fun _ => True) (fun _ => (p10, Obj.cells ([Value.string (inN left).2.1, Value.int .i64 (inN left).2.2]).toArray 133 (0, 0)) :: rowO 3 R) rfl rfl Tryz.func85 Zk rfl (fun w1 hw1 => (c_in (te := 133) (rest := []) (l2 := rowO 3 R) left (hw1.to rfl) (by omega)).mono fun e w2 ⟨h1, h2⟩ => ⟨h1, (), trivial, h2⟩) fun _ _ => ?_
  refine x_callv (v := Value.int .i64 (uns (inN left).1)) rfl rfl rfl Tryz.func87 Zk rfl (fun w1 hw1 => c_Uns _ w1 hle.2) ?_
  obtain ⟨d, hd⟩ : ∃ d, uns (inN left).1 = d := ⟨_, rfl⟩
  have hdin : in64 d := hd ▸ uns_in hle.2
  rw [hd] at hU ⊢
  refine x_buildSliceL (cs := [Value.int .i64 d]) rfl rfl rfl u22 sz3 zr3 rfl rfl rfl ?_
  intro p29
  refine x_append (e := 3) [(p29, Obj.cells [Value.int .i64 d].toArray 3), (p10, Obj.cells ([Value.string (inN left).2.1, Value.int .i64 (inN left).2.2]).toArray 133 (0, 0))] (l2 := []) R (len := out.length) (xs := out.map (Value.int .i64)) rfl rfl rfl rfl (by simp) hR u22 ap3 rfl rfl (m := 1) (news := [Value.int .i64 d]) (fun i hi => at_ownL (vs := [Value.int .i64 d]) (.head _) (by rw [Nat.zero_add]; exact List.getElem?_eq_getElem hi)) rfl Zx (by omega) fun R' hR' => ?_
  have hR' : rowOK 1 R' (out ++ [d]).length ((out ++ [d]).map (Value.int .i64)) := by rw [List.length_append, List.map_append]; exact hR'
  refine Xa ?_
  refine Ze (b_norm (Zt (Zr ?_)))
  refine Xm ?_
  refine Xv rfl (v_addE (c := ((i + 1 : Nat) : Int)) rfl rfl (by rw [u64_wrap (by omega)]; omega)) ?_
  refine Xa ?_
  refine Ze ?_
  refine l_norm (x := (i, left, 0, out, R)) (μ := fun x : Nat × ByteArray × Int × List Int × RowS => if x.2.2.1 = 0 then x.2.1.size + 1 else 0) (i + 1, (inN left).2.1, (inN left).2.2, out ++ [d], R') ⟨hil, ?_, fun y hy => by rcases List.mem_append.1 hy with h | h; (· exact hal y h); rw [List.mem_singleton.1 h]; exact hdin, hR', hU⟩ ?_ (by dsimp only; rw [List.length_append, List.length_singleton]; exact Zu) (fun w1 h => h.less (own' := (p10, Obj.cells ([Value.string (inN left).2.1, Value.int .i64 (inN left).2.2]).toArray 133 (0, 0)) :: rowO 3 R') (by simp only [List.append_nil]; exact List.sublist_cons_self _ _) (fun _ h => h))
  ·dsimp only; rw [List.length_append, List.length_singleton]; by_cases h0 : (inN left).2.2 = 0; (· rw [if_pos h0]; have := (in_ok h0).2.1; omega); rw [if_neg h0]; omega
  dsimp only; rw [if_pos rfl]; by_cases h0 : (inN left).2.2 = 0; (· rw [if_pos h0]; have := (in_ok h0).2.1; omega); rw [if_neg h0]; omega
 simp only [hb22, hb21, hb15, Qz, ne_eq] at hc22
 have hE := riS_end (m := many) (i := i) (l := left) (e := e) (out := out) (by rcases hc22 with h | h; (· exact .inl (by omega)); exact .inr h)
 rw [hU] at hE
 rw [hE] at hup
 refine w_exit ?_
 refine t_exit ?_
 refine t_exit ?_
 refine b_hit ?_
 refine Zt (Zs (Zs (Zr ?_)))
 refine Xm ?_
 refine Xv rfl (v_nilCheck rfl) ?_
 refine Xv rfl (v_fieldAddr (off' := 1) u133 rfl sz36 (by decide) rfl rfl) ?_
 refine Xv rfl (v_load u36 rfl rfl (at_ownL (vs := [Value.string left, Value.int .i64 e]) Zh rfl)) ?_
 refine Xb rfl (v_eql rfl rfl) fun b35 hb35 => ?_
 refine Xm ?_
 refine Xg ?_
 refine Xi rfl rfl rfl (fun hg0 => by subst hg0; (try simp only [Qy]); exact v_nilCheck rfl) ?_
 refine Xi rfl rfl rfl (fun hg0 => by subst hg0; (try simp only [Qy]); exact v_fieldAddr (off' := 0) u133 rfl sz9 (by decide) rfl rfl) ?_
 refine Xi rfl rfl rfl (fun hg0 => by subst hg0; (try simp only [Qy]); exact v_load u9 rfl rfl (at_ownL (vs := [Value.string left, Value.int .i64 e]) Zh rfl)) ?_
 refine Xj rfl rfl rfl (fun hg0 => by subst hg0; (try simp only [Qy]); exact v_sneq rfl rfl) fun b41 hb41 => ?_
 refine Xb rfl (v_and rfl rfl) fun b42 hb42 => ?_
 refine Ze (Zt ?_)
 refine w_cond rfl (fun hc42 => ?_) (fun hc42 => ?_)
 ·simp only [hb42, hb41, hb35, Qz, ne_eq] at hc42
  obtain ⟨hez, hln⟩ := hc42
  subst hez
  rw [fin_more hln] at hup
  have hF := hup
  refine Zr ?_
  refine Xm ?_
  refine Xv rfl (v_nilCheck rfl) ?_
  refine Xv rfl (v_fieldAddr (off' := 1) u133 rfl sz36 (by decide) rfl rfl) ?_
  refine x_store (cs := [Value.string left, Value.int .i64 0]) (off := 1) (e := 133) (l2 := rowO 3 R) [] rfl rfl rfl rfl sz36 rfl (by show 2 ≤ 2; decide) ?_
  refine Ze (Zt (Zs (Zs (Zr ?_))))
  refine Xm ?_
  refine Xv rfl (v_nilCheck rfl) ?_
  refine Xv rfl (v_fieldAddr (off' := 1) u133 rfl sz36 (by decide) rfl rfl) ?_
  refine Xv rfl (v_load u36 rfl rfl (at_ownL (vs := [Value.string left, Value.int .i64 11]) Zh rfl)) ?_
  refine Xb rfl (v_neq rfl rfl) fun b50 hb50 => ?_
  refine Ze (Zt ?_)
  refine w_cond rfl (fun hc50 => ?_) (fun hc50 => ?_)
  ·skip
   refine Zs ?_
   refine rg_draw 6 [(true, 0), (true, 1), (true, 2), (true, 3), (true, 4), (true, 5)] Zk Zk ?_
   refine Xm ?_
   refine Xv rfl (v_nilCheck rfl) ?_
   refine Xv rfl (v_fieldAddr (off' := 1) u133 rfl sz36 (by decide) rfl rfl) ?_
   refine Xv rfl (v_load u36 rfl rfl (at_ownL (vs := [Value.string left, Value.int .i64 11]) Zh rfl)) ?_
   refine Xa ?_
   refine Xa ?_
   refine Ze (Zt (w_ret (t_ret ?_)))
   refine ret2 rfl rfl rfl (fun w' hm => ⟨_, by rw [hF] <;> rfl, hm.base (by simp), by rw [hF]; exact ⟨none, 0, rfl, Nat.le_refl _, Nat.zero_le _, fun h => absurd h (Nat.lt_irrefl 0)⟩⟩)
  simp [hb50] at hc50
 simp only [hb42, hb41, hb35, Qz, ne_eq] at hc42
 refine w_skip (Zt (Zs (Zs (Zr ?_))))
 refine Xm ?_
 refine Xv rfl (v_nilCheck rfl) ?_
 refine Xv rfl (v_fieldAddr (off' := 1) u133 rfl sz36 (by decide) rfl rfl) ?_
 refine Xv rfl (v_load u36 rfl rfl (at_ownL (vs := [Value.string left, Value.int .i64 e]) Zh rfl)) ?_
 refine Xb rfl (v_neq rfl rfl) fun b50 hb50 => ?_
 refine Ze (Zt ?_)
 refine w_cond rfl (fun hc50 => ?_) (fun hc50 => ?_)
 ·have hez : e ≠ 0 := by rw [hb50] at hc50; exact of_decide_eq_true hc50
  rw [fin_err hez] at hup
  have hF := hup
  refine Zs ?_
  refine rg_draw 6 [(true, 0), (true, 1), (true, 2), (true, 3), (true, 4), (true, 5)] Zk Zk ?_
  refine Xm ?_
  refine Xv rfl (v_nilCheck rfl) ?_
  refine Xv rfl (v_fieldAddr (off' := 1) u133 rfl sz36 (by decide) rfl rfl) ?_
  refine Xv rfl (v_load u36 rfl rfl (at_ownL (vs := [Value.string left, Value.int .i64 e]) Zh rfl)) ?_
  refine Xa ?_
  refine Xa ?_
  refine Ze (Zt (w_ret (t_ret ?_)))
  refine ret2 rfl rfl rfl (fun w' hm => ⟨_, by rw [hF] <;> rfl, hm.base (by simp), by rw [hF]; exact ⟨none, 0, rfl, Nat.le_refl _, Nat.zero_le _, fun h => absurd h (Nat.lt_irrefl 0)⟩⟩)
 obtain rfl : e = 0 := by rw [hb50] at hc50; have := of_decide_eq_false hc50; omega
 have hln : left = ⟨#[]⟩ := by rcases hc42 with h | h; (· exact absurd rfl h); exact h
 rw [hln, fin_ok] at hup
 have hF := hup
 refine w_skip (Zt (Zs (Zr ?_)))
 refine Xm ?_
 refine Xa ?_
 refine Xa ?_
 refine Ze (Zt (w_ret ?_))
 refine ret2 rfl rfl rfl (fun w' hm => ⟨rowV R out.length, by rw [hF], hm.base (by simp), ?_⟩)
 rw [hF]
 exact rowI_rd (e := 3) hR rfl hal hm (fun q hq => by simp [hq]) (fun q hq => hm.newer (by simp) (by simp [hq]))
set_option maxHeartbeats 1000000 in
theorem c_rUnp (s : ByteArray) (w : World) (hs : s.size ≤ 2000000) :
  Calls Tryz.prog 63 #[.string s] w fun e w' => ∃ v, e = .returned (.tuple #[v, Value.int .i64 (unpQ s).2]) ∧ Later w w' ∧ sliceRd tyStr (fun b => w.heap.size ≤ b) w' v (unpQ s).1 := by
 refine enter (vs := [.string s]) Tryz.func63 rfl Tryz.ntmps63 rfl ?_
 refine Zs (Zr ?_)
 refine Xa ?_
 refine Xa ?_
 refine Ze (Zt (Zs (Zr ?_)))
 refine Xm ?_
 refine x_callv (v := .tuple #[.int .u64 ((rnL (bl s)).1 : Nat), .int .i64 ((rnL (bl s)).2.1 : Nat), Value.int .i64 (rnL (bl s)).2.2]) rfl rfl rfl Tryz.func92 Zk rfl (fun w1 hw1 => c_rRN s w1 hs) ?_
 obtain ⟨many, z0, e0, hrn⟩ : ∃ m z e, rnL (bl s) = (m, z, e) := ⟨_, _, _, rfl⟩
 have hle0 := rn_le (bl s)
 rw [bl_len, hrn] at hle0
 dsimp only at hle0
 obtain ⟨hz0, hmy⟩ := hle0
 have hin0 : inN s = (many, s.extract z0 s.size, e0) := by unfold inN; rw [hrn]
 obtain ⟨RES, hRES⟩ : ∃ q, (unS (inN s).1 (inN s).2.1 (inN s).2.2 []) = q := ⟨_, rfl⟩
 have hup : unpQ s = finU RES := by rw [unp_eq, hRES]
 rw [hin0] at hRES
 dsimp only at hRES
 rw [hrn]
 dsimp only
 refine Xm ?_
 refine Xv rfl (v_extract rfl rfl) ?_
 refine Xv rfl (v_extract rfl rfl) ?_
 refine Xv rfl (v_extract rfl rfl) ?_
 refine Xa ?_
 refine Xa ?_
 refine Xa ?_
 refine Ze (Zt (Zs (Zs (Zr ?_))))
 refine Xm ?_
 refine Xb rfl (v_neq rfl rfl) fun b19 hb19 => ?_
 refine Ze (Zt ?_)
 refine w_cond rfl (fun hc19 => ?_) (fun hc19 => ?_)
 ·simp only [hb19, Qz, ne_eq] at hc19
  have hez : e0 ≠ 0 := hc19
  have hF := hup
  rw [← hRES, show (unS many (s.extract z0 s.size) e0 []) = (s.extract z0 s.size, e0, []) from if_neg hez, fin_err hez] at hF
  refine Zs (Zr ?_)
  refine Xm ?_
  refine Xa ?_
  refine Xa ?_
  refine Ze (Zt (w_ret (t_ret ?_)))
  refine ret2 rfl rfl rfl (fun w' hm => ⟨_, by rw [hF] <;> rfl, hm.base (by simp), by rw [hF]; exact ⟨none, 0, rfl, Nat.le_refl _, Nat.zero_le _, fun h => absurd h (Nat.lt_irrefl 0)⟩⟩)
 simp only [hb19, Qz, ne_eq] at hc19
 obtain rfl : e0 = 0 := by omega
 refine w_skip (Zt (Zs (Zr ?_)))
 refine Xa ?_
 refine Ze (Zt (Zs (Zs (Zr ?_))))
 refine Xa ?_
 refine Ze (Zt (w_block ?_))
 refine w_loop (σ := Nat × Nat × List ByteArray × RowS) (fun x => x.1 ≤ many ∧ x.2.1 ≤ s.size ∧ x.2.2.1.length ≤ x.2.1 ∧ (∀ y ∈ x.2.2.1, y.size ≤ s.size) ∧ rowOK 1 x.2.2.2 x.2.2.1.length (x.2.2.1.map Value.string) ∧ unS (many - x.1) (s.extract x.2.1 s.size) 0 x.2.2.1 = RES) (fun x => [(0, Value.string s), (4, Value.int .u64 (many : Nat)), (5, Value.int .i64 (x.2.1 : Nat)), (7, rowV x.2.2.2 x.2.2.1.length), (8, Value.int .u64 (x.1 : Nat))]) (fun x => rowO 9 x.2.2.2) (fun x => [(w, fun _ => True)]) (fun x => s.size - x.2.1) ((0, z0, [], none)) (⟨Nat.zero_le _, hz0, Nat.zero_le _, (fun y hy => by cases hy), rowOK_nil, hRES⟩) (l_start Zu (fun _ h => h)) ?_
 rintro ⟨i, a, out, R⟩ ⟨him, has, hol, hal, hR, hU⟩
 refine w_state ([(0, Value.string s), (4, Value.int .u64 (many : Nat)), (5, Value.int .i64 (a : Nat)), (7, rowV R out.length), (8, Value.int .u64 (i : Nat))]) (rowO 9 R) ([(w, fun _ => True)]) ?_
 dsimp only at him has hol hal hR hU
 refine Zs (Zs (Zr ?_))
 refine Xm ?_
 refine Xm ?_
 refine Xb rfl (v_lss rfl rfl) fun b23 hb23 => ?_
 refine Ze (Zt ?_)
 refine w_cond rfl (fun hc23 => ?_) (fun hc23 => ?_)
 ·simp only [hb23, Qz, ne_eq] at hc23
  have hil : i < many := by omega
  rw [unS_step hil] at hU
  obtain ⟨left, hlf⟩ : ∃ q, s.extract a s.size = q := ⟨_, rfl⟩
  rw [hlf] at hU
  have hls : left.size = s.size - a := by rw [← hlf, ext_sz s has]
  refine w_skip (Zt (Zs (w_block (Zs (Zr ?_)))))
  refine Xm ?_
  refine Xm ?_
  refine Xv (v := Value.string left) rfl (by rw [← hlf]; exact v_cut_from (i := a) u9 rfl rfl (by omega)) ?_
  refine x_callv (v := .tuple #[.int .u64 ((rnL (bl left)).1 : Nat), .int .i64 ((rnL (bl left)).2.1 : Nat), Value.int .i64 (rnL (bl left)).2.2]) rfl rfl rfl Tryz.func92 Zk rfl (fun w1 hw1 => c_rRN left w1 (by omega)) ?_
  obtain ⟨n, z, f, hrk⟩ : ∃ m z e, rnL (bl left) = (m, z, e) := ⟨_, _, _, rfl⟩
  rw [hrk]
  dsimp only
  refine Xm ?_
  refine Xv rfl (v_extract rfl rfl) ?_
  refine Xv rfl (v_extract rfl rfl) ?_
  refine Xv rfl (v_extract rfl rfl) ?_
  refine Xa ?_
  refine Xa ?_
  refine Xa ?_
  refine Ze (Zt (Zs (Zs (Zr ?_))))
  refine Xm ?_
  refine Xb rfl (v_neq rfl rfl) fun b35 hb35 => ?_
  refine Ze (Zt ?_)
  refine w_cond rfl (fun hc35 => ?_) (fun hc35 => ?_)
  ·simp only [hb35, Qz, ne_eq] at hc35
   have hfz : f ≠ 0 := hc35
   have hnx : nxQ left out = (left, f, out) := by have h := nx_err (l := left) (out := out) (by rw [hrk]; exact hfz); rw [hrk] at h; exact h
   rw [hnx, unS_end (.inr hfz)] at hU
   have hF := hup
   rw [← hU, fin_err hfz] at hF
   refine Zs (Zr ?_)
   refine Xm ?_
   refine Xa ?_
   refine Xa ?_
   refine Ze (Zt (w_ret (t_ret (b_ret (t_ret (t_ret (b_ret (t_ret ?_))))))))
   refine ret2 rfl rfl rfl (fun w' hm => ⟨_, by rw [hF] <;> rfl, hm.base (by simp), by rw [hF]; exact ⟨none, 0, rfl, Nat.le_refl _, Nat.zero_le _, fun h => absurd h (Nat.lt_irrefl 0)⟩⟩)
  simp only [hb35, Qz, ne_eq] at hc35
  obtain rfl : f = 0 := by omega
  obtain ⟨hazs, hz1, hnx⟩ := nx_at has (out := out) (by rw [hlf]; exact hrk)
  rw [hlf] at hnx
  have hnl := (rn_le (bl left)).2
  rw [hrk] at hnl
  dsimp only at hnl
  refine w_skip (Zt (Zs (Zr ?_)))
  refine Xm ?_
  refine Xm ?_
  refine Xv rfl (v_addi (c := ((a + z : Nat) : Int)) rfl rfl (by omega) (by omega)) ?_
  refine Xa ?_
  refine Ze (Zt (Zs (Zs (Zr ?_))))
  refine Xm ?_
  refine Xm ?_
  refine Xv rfl (v_len_str u9 rfl) ?_
  refine Xm ?_
  refine Xv rfl (v_subi (c := ((s.size - (a + z) : Nat) : Int)) rfl rfl (by omega) (by omega)) ?_
  refine Xv rfl (v_convE (c := ((s.size - (a + z) : Nat) : Int)) u3 u107 rfl (u64_wrap (by omega))) ?_
  refine Xb rfl (v_gtr rfl rfl) fun b46 hb46 => ?_
  refine Ze (Zt ?_)
  refine w_cond rfl (fun hc46 => ?_) (fun hc46 => ?_)
  ·simp only [hb46, Qz, ne_eq] at hc46
   have hgt : s.size - (a + z) < n := by omega
   rw [if_pos hgt] at hnx
   rw [hnx, unS_end (.inr (show (10 : Int) ≠ 0 by decide))] at hU
   have hF := hup
   rw [← hU, fin_err (show (10 : Int) ≠ 0 by decide)] at hF
   refine Zs (Zr ?_)
   refine Xa ?_
   refine Xa ?_
   refine Ze (Zt (w_ret (t_ret (b_ret (t_ret (t_ret (b_ret (t_ret ?_))))))))
   refine ret2 rfl rfl rfl (fun w' hm => ⟨_, by rw [hF] <;> rfl, hm.base (by simp), by rw [hF]; exact ⟨none, 0, rfl, Nat.le_refl _, Nat.zero_le _, fun h => absurd h (Nat.lt_irrefl 0)⟩⟩)
  simp only [hb46, Qz, ne_eq] at hc46
  have hgt : ¬s.size - (a + z) < n := by omega
  rw [if_neg hgt] at hnx
  rw [hnx] at hU
  refine w_skip (Zt (Zs (Zr ?_)))
  refine Xm ?_
  refine Xm ?_
  refine Xm ?_
  refine Xm ?_
  refine Xm ?_
  refine Xv rfl (v_convE (c := ((n : Nat) : Int)) u107 u3 rfl (wrap_in (by omega))) ?_
  refine Xv rfl (v_addi (c := ((a + z + n : Nat) : Int)) rfl rfl (by omega) (by omega)) ?_
  obtain ⟨y9, hy9⟩ : ∃ q, s.extract (a + z) (a + z + n) = q := ⟨_, rfl⟩
  have hys : y9.size ≤ s.size := by rw [← hy9, ByteArray.size_extract]; omega
  rw [hy9] at hU
  refine Xv (v := Value.string y9) rfl (by rw [← hy9]; exact v_cut (i := a + z) (j := a + z + n) u9 rfl rfl rfl (by omega) (by omega)) ?_
  refine x_buildSliceL (cs := [Value.string y9]) rfl rfl rfl u55 sz9 zr9 rfl rfl rfl ?_
  intro p55
  refine x_append (e := 9) [(p55, Obj.cells [Value.string y9].toArray 9)] (l2 := []) R (len := out.length) (xs := out.map Value.string) rfl rfl rfl rfl (by simp) hR u55 ap9 rfl rfl (m := 1) (news := [Value.string y9]) (fun i hi => at_ownL (vs := [Value.string y9]) (.head _) (by rw [Nat.zero_add]; exact List.getElem?_eq_getElem hi)) rfl Zx (by omega) fun R' hR' => ?_
  have hR' : rowOK 1 R' (out ++ [y9]).length ((out ++ [y9]).map Value.string) := by rw [List.length_append, List.map_append]; exact hR'
  refine Xa ?_
  refine Ze (Zt (Zr ?_))
  refine Xm ?_
  refine Xm ?_
  refine Xv rfl (v_convE (c := ((n : Nat) : Int)) u107 u3 rfl (wrap_in (by omega))) ?_
  refine Xv rfl (v_addi (c := ((a + z + n : Nat) : Int)) rfl rfl (by omega) (by omega)) ?_
  refine Xa ?_
  refine Ze (b_norm (Zt (Zr ?_)))
  refine Xm ?_
  refine Xv rfl (v_addE (c := ((i + 1 : Nat) : Int)) rfl rfl (by rw [u64_wrap (by omega)]; omega)) ?_
  refine Xa ?_
  refine Ze ?_
  exact l_norm (x := (i, a, out, R)) (μ := fun x : Nat × Nat × List ByteArray × RowS => s.size - x.2.1) (i + 1, a + z + n, out ++ [y9], R') ⟨hil, by dsimp only; omega, by dsimp only; rw [List.length_append, List.length_singleton]; omega, fun y hy => by rcases List.mem_append.1 hy with h | h; (· exact hal y h); rw [List.mem_singleton.1 h]; exact hys, hR', hU⟩ (by simp only; omega) (by dsimp only; rw [List.length_append, List.length_singleton]; exact Zu) (fun w1 h => h.less (own' := rowO 9 R') (by simp only [List.append_nil]; exact List.sublist_cons_self _ _) (fun _ h => h))
 simp only [hb23, Qz, ne_eq] at hc23
 rw [unS_end (.inl (by omega))] at hU
 have hF := hup
 rw [← hU] at hF
 refine w_exit ?_
 refine t_exit ?_
 refine t_exit ?_
 refine b_hit ?_
 refine Zt (Zs (Zs (Zr ?_)))
 refine Xm ?_
 refine Xm ?_
 refine Xv rfl (v_len_str u9 rfl) ?_
 refine Xb rfl (v_lss rfl rfl) fun b64 hb64 => ?_
 refine Ze (Zt ?_)
 refine w_cond rfl (fun hc64 => ?_) (fun hc64 => ?_)
 ·simp only [hb64, Qz, ne_eq] at hc64
  rw [fin_more (fun h => (ext_nil has).1 h (by omega))] at hF
  refine Zs (Zr ?_)
  refine Xa ?_
  refine Xa ?_
  refine Ze (Zt (w_ret (t_ret ?_)))
  refine ret2 rfl rfl rfl (fun w' hm => ⟨_, by rw [hF] <;> rfl, hm.base (by simp), by rw [hF]; exact ⟨none, 0, rfl, Nat.le_refl _, Nat.zero_le _, fun h => absurd h (Nat.lt_irrefl 0)⟩⟩)
 simp only [hb64, Qz, ne_eq] at hc64
 rw [(ext_nil has).2 (by omega), fin_ok] at hF
 refine w_skip (Zt (Zs (Zr ?_)))
 refine Xm ?_
 refine Xa ?_
 refine Xa ?_
 refine Ze (Zt (w_ret ?_))
 refine ret2 rfl rfl rfl (fun w' hm => ⟨rowV R out.length, by rw [hF], hm.base (by simp), ?_⟩)
 rw [hF]
 exact row1_rd (T := tyStr) (e := 9) Value.string rfl hR rfl (fun D9 w9 y hy => ⟨rfl, by have := hal y hy; unfold okS; omega⟩) hm (fun q hq => by simp [hq]) (fun q hq => hm.newer (by simp) (by simp [hq]))
set_option maxHeartbeats 1000000 in
theorem c_rRI (s : ByteArray) (w : World) (hs : s.size ≤ 2000000) :
  Calls Tryz.prog 65 #[.string s] w fun e w' => ∃ v, e = .returned (.tuple #[v, Value.int .i64 (riQ s).2]) ∧ Later w w' ∧ sliceRd tyI (fun b => w.heap.size ≤ b) w' v (riQ s).1 := by
 refine enter (vs := [.string s]) Tryz.func65 rfl Tryz.ntmps65 rfl ?_
 refine Zs (Zr ?_)
 refine Xa ?_
 refine Xa ?_
 refine Ze (Zt (Zs (Zr ?_)))
 refine Xm ?_
 refine x_callv (v := .tuple #[.int .u64 ((rnL (bl s)).1 : Nat), .int .i64 ((rnL (bl s)).2.1 : Nat), Value.int .i64 (rnL (bl s)).2.2]) rfl rfl rfl Tryz.func92 Zk rfl (fun w1 hw1 => c_rRN s w1 hs) ?_
 obtain ⟨many, z0, e0, hrn⟩ : ∃ m z e, rnL (bl s) = (m, z, e) := ⟨_, _, _, rfl⟩
 have hle0 := rn_le (bl s)
 rw [bl_len, hrn] at hle0
 dsimp only at hle0
 obtain ⟨hz0, hmy⟩ := hle0
 have hin0 : inN s = (many, s.extract z0 s.size, e0) := by unfold inN; rw [hrn]
 obtain ⟨RES, hRES⟩ : ∃ q, (riS (inN s).1 (inN s).2.1 (inN s).2.2 []) = q := ⟨_, rfl⟩
 have hup : riQ s = finU RES := by rw [riq_eq, hRES]
 rw [hin0] at hRES
 dsimp only at hRES
 rw [hrn]
 dsimp only
 refine Xm ?_
 refine Xv rfl (v_extract rfl rfl) ?_
 refine Xv rfl (v_extract rfl rfl) ?_
 refine Xv rfl (v_extract rfl rfl) ?_
 refine Xa ?_
 refine Xa ?_
 refine Xa ?_
 refine Ze (Zt (Zs (Zs (Zr ?_))))
 refine Xm ?_
 refine Xb rfl (v_neq rfl rfl) fun b19 hb19 => ?_
 refine Ze (Zt ?_)
 refine w_cond rfl (fun hc19 => ?_) (fun hc19 => ?_)
 ·simp only [hb19, Qz, ne_eq] at hc19
  have hez : e0 ≠ 0 := hc19
  have hF := hup
  rw [← hRES, show (riS many (s.extract z0 s.size) e0 []) = (s.extract z0 s.size, e0, []) from if_neg hez, fin_err hez] at hF
  refine Zs (Zr ?_)
  refine Xm ?_
  refine Xa ?_
  refine Xa ?_
  refine Ze (Zt (w_ret (t_ret ?_)))
  refine ret2 rfl rfl rfl (fun w' hm => ⟨_, by rw [hF] <;> rfl, hm.base (by simp), by rw [hF]; exact ⟨none, 0, rfl, Nat.le_refl _, Nat.zero_le _, fun h => absurd h (Nat.lt_irrefl 0)⟩⟩)
 simp only [hb19, Qz, ne_eq] at hc19
 obtain rfl : e0 = 0 := by omega
 refine w_skip (Zt (Zs (Zr ?_)))
 refine Xa ?_
 refine Ze (Zt (Zs (Zs (Zr ?_))))
 refine Xa ?_
 refine Ze (Zt (w_block ?_))
 refine w_loop (σ := Nat × Nat × List Int × RowS) (fun x => x.1 ≤ many ∧ x.2.1 ≤ s.size ∧ x.2.2.1.length ≤ x.2.1 ∧ (∀ y ∈ x.2.2.1, in64 y) ∧ rowOK 1 x.2.2.2 x.2.2.1.length (x.2.2.1.map (Value.int .i64)) ∧ riS (many - x.1) (s.extract x.2.1 s.size) 0 x.2.2.1 = RES) (fun x => [(0, Value.string s), (4, Value.int .u64 (many : Nat)), (5, Value.int .i64 (x.2.1 : Nat)), (7, rowV x.2.2.2 x.2.2.1.length), (8, Value.int .u64 (x.1 : Nat))]) (fun x => rowO 3 x.2.2.2) (fun x => [(w, fun _ => True)]) (fun x => s.size - x.2.1) ((0, z0, [], none)) (⟨Nat.zero_le _, hz0, Nat.zero_le _, (fun y hy => by cases hy), rowOK_nil, hRES⟩) (l_start Zu (fun _ h => h)) ?_
 rintro ⟨i, a, out, R⟩ ⟨him, has, hol, hal, hR, hU⟩
 refine w_state ([(0, Value.string s), (4, Value.int .u64 (many : Nat)), (5, Value.int .i64 (a : Nat)), (7, rowV R out.length), (8, Value.int .u64 (i : Nat))]) (rowO 3 R) ([(w, fun _ => True)]) ?_
 dsimp only at him has hol hal hR hU
 refine Zs (Zs (Zr ?_))
 refine Xm ?_
 refine Xm ?_
 refine Xb rfl (v_lss rfl rfl) fun b23 hb23 => ?_
 refine Ze (Zt ?_)
 refine w_cond rfl (fun hc23 => ?_) (fun hc23 => ?_)
 ·simp only [hb23, Qz, ne_eq] at hc23
  have hil : i < many := by omega
  rw [riS_step hil] at hU
  obtain ⟨left, hlf⟩ : ∃ q, s.extract a s.size = q := ⟨_, rfl⟩
  rw [hlf] at hU
  have hls : left.size = s.size - a := by rw [← hlf, ext_sz s has]
  refine w_skip (Zt (Zs (w_block (Zs (Zr ?_)))))
  refine Xm ?_
  refine Xm ?_
  refine Xv (v := Value.string left) rfl (by rw [← hlf]; exact v_cut_from (i := a) u9 rfl rfl (by omega)) ?_
  refine x_callv (v := .tuple #[.int .u64 ((rnL (bl left)).1 : Nat), .int .i64 ((rnL (bl left)).2.1 : Nat), Value.int .i64 (rnL (bl left)).2.2]) rfl rfl rfl Tryz.func92 Zk rfl (fun w1 hw1 => c_rRN left w1 (by omega)) ?_
  obtain ⟨n, z, f, hrk⟩ : ∃ m z e, rnL (bl left) = (m, z, e) := ⟨_, _, _, rfl⟩
  rw [hrk]
  dsimp only
  refine Xm ?_
  refine Xv rfl (v_extract rfl rfl) ?_
  refine Xv rfl (v_extract rfl rfl) ?_
  refine Xv rfl (v_extract rfl rfl) ?_
  refine Xa ?_
  refine Xa ?_
  refine Xa ?_
  refine Ze (Zt (Zs (Zs (Zr ?_))))
  refine Xm ?_
  refine Xb rfl (v_neq rfl rfl) fun b35 hb35 => ?_
  refine Ze (Zt ?_)
  refine w_cond rfl (fun hc35 => ?_) (fun hc35 => ?_)
  ·simp only [hb35, Qz, ne_eq] at hc35
   have hfz : f ≠ 0 := hc35
   have hfz2 : (inN left).2.2 = f := by show (rnL (bl left)).2.2 = f; rw [hrk]
   rw [hfz2, riS_end (.inr hfz)] at hU
   have hF := hup
   rw [← hU, fin_err hfz] at hF
   refine Zs (Zr ?_)
   refine Xm ?_
   refine Xa ?_
   refine Xa ?_
   refine Ze (Zt (w_ret (t_ret (b_ret (t_ret (t_ret (b_ret (t_ret ?_))))))))
   refine ret2 rfl rfl rfl (fun w' hm => ⟨_, by rw [hF] <;> rfl, hm.base (by simp), by rw [hF]; exact ⟨none, 0, rfl, Nat.le_refl _, Nat.zero_le _, fun h => absurd h (Nat.lt_irrefl 0)⟩⟩)
  simp only [hb35, Qz, ne_eq] at hc35
  obtain rfl : f = 0 := by omega
  obtain ⟨hazs, hz1, hnl, hnx⟩ := in_at has (by rw [hlf]; exact hrk)
  rw [hlf] at hnx
  rw [hnx] at hU
  dsimp only at hU
  refine w_skip (Zt (Zs (Zr ?_)))
  refine Xm ?_
  refine Xm ?_
  refine Xv rfl (v_addi (c := ((a + z : Nat) : Int)) rfl rfl (by omega) (by omega)) ?_
  refine Xa ?_
  refine Ze (Zt (Zr ?_))
  refine Xm ?_
  refine Xm ?_
  refine x_callv (v := Value.int .i64 (uns n)) rfl rfl rfl Tryz.func95 Zk rfl (fun w1 hw1 => c_rUns n w1 hnl) ?_
  obtain ⟨d, hd⟩ : ∃ d, uns n = d := ⟨_, rfl⟩
  have hdin : in64 d := hd ▸ uns_in hnl
  rw [hd] at hU ⊢
  refine x_buildSliceL (cs := [Value.int .i64 d]) rfl rfl rfl u22 sz3 zr3 rfl rfl rfl ?_
  intro p43
  refine x_append (e := 3) [(p43, Obj.cells [Value.int .i64 d].toArray 3)] (l2 := []) R (len := out.length) (xs := out.map (Value.int .i64)) rfl rfl rfl rfl (by simp) hR u22 ap3 rfl rfl (m := 1) (news := [Value.int .i64 d]) (fun i hi => at_ownL (vs := [Value.int .i64 d]) (.head _) (by rw [Nat.zero_add]; exact List.getElem?_eq_getElem hi)) rfl Zx (by omega) fun R' hR' => ?_
  have hR' : rowOK 1 R' (out ++ [d]).length ((out ++ [d]).map (Value.int .i64)) := by rw [List.length_append, List.map_append]; exact hR'
  refine Xa ?_
  refine Ze (b_norm (Zt (Zr ?_)))
  refine Xm ?_
  refine Xv rfl (v_addE (c := ((i + 1 : Nat) : Int)) rfl rfl (by rw [u64_wrap (by omega)]; omega)) ?_
  refine Xa ?_
  refine Ze ?_
  exact l_norm (x := (i, a, out, R)) (μ := fun x : Nat × Nat × List Int × RowS => s.size - x.2.1) (i + 1, a + z, out ++ [d], R') ⟨hil, hazs, by dsimp only; rw [List.length_append, List.length_singleton]; omega, fun y hy => by rcases List.mem_append.1 hy with h | h; (· exact hal y h); rw [List.mem_singleton.1 h]; exact hdin, hR', hU⟩ (by simp only; omega) (by dsimp only; rw [List.length_append, List.length_singleton]; exact Zu) (fun w1 h => h.less (own' := rowO 3 R') (by simp only [List.append_nil]; exact List.sublist_cons_self _ _) (fun _ h => h))
 simp only [hb23, Qz, ne_eq] at hc23
 rw [riS_end (.inl (by omega))] at hU
 have hF := hup
 rw [← hU] at hF
 refine w_exit ?_
 refine t_exit ?_
 refine t_exit ?_
 refine b_hit ?_
 refine Zt (Zs (Zs (Zr ?_)))
 refine Xm ?_
 refine Xm ?_
 refine Xv rfl (v_len_str u9 rfl) ?_
 refine Xb rfl (v_lss rfl rfl) fun b48 hb48 => ?_
 refine Ze (Zt ?_)
 refine w_cond rfl (fun hc48 => ?_) (fun hc48 => ?_)
 ·simp only [hb48, Qz, ne_eq] at hc48
  rw [fin_more (fun h => (ext_nil has).1 h (by omega))] at hF
  refine Zs (Zr ?_)
  refine Xa ?_
  refine Xa ?_
  refine Ze (Zt (w_ret (t_ret ?_)))
  refine ret2 rfl rfl rfl (fun w' hm => ⟨_, by rw [hF] <;> rfl, hm.base (by simp), by rw [hF]; exact ⟨none, 0, rfl, Nat.le_refl _, Nat.zero_le _, fun h => absurd h (Nat.lt_irrefl 0)⟩⟩)
 simp only [hb48, Qz, ne_eq] at hc48
 rw [(ext_nil has).2 (by omega), fin_ok] at hF
 refine w_skip (Zt (Zs (Zr ?_)))
 refine Xm ?_
 refine Xa ?_
 refine Xa ?_
 refine Ze (Zt (w_ret ?_))
 refine ret2 rfl rfl rfl (fun w' hm => ⟨rowV R out.length, by rw [hF], hm.base (by simp), ?_⟩)
 rw [hF]
 exact rowI_rd (e := 3) hR rfl hal hm (fun q hq => by simp [hq]) (fun q hq => hm.newer (by simp) (by simp [hq]))
end Go.Proofs.YtaniaihoodgmpaaGreatDoor

namespace Go.Proofs.YtaniaihoodgmpaaGreatDoor
open Go.RowKit Go.PK
attribute [local irreducible] WX
theorem c_chunk (A : Option Addr) (len cp : Nat) (w : World) :
  Calls Tryz.prog 58 #[.slice A len cp, .int .i64 4] w fun e w' => ∃ b2 b3, e = .returned (.func (.func 88) #[] #[.pointer (some ⟨b2, 0, none⟩), .pointer (some ⟨b3, 0, none⟩)]) ∧ Later w w' ∧ Mem w' [(b3, Obj.cells [Value.int .i64 4].toArray 3 (0, 0)), (b2, Obj.cells [Value.slice A len cp].toArray 22 (0, 0))] [(w, fun _ => True)] := by
 refine enter (vs := [.slice A len cp, .int .i64 4]) Tryz.func58 rfl Tryz.ntmps58 rfl ?_
 refine Zs (Zr ?_)
 refine x_box rfl rfl rfl rfl ?_
 intro p2
 refine x_box rfl rfl rfl rfl ?_
 intro p3
 refine Xa ?_
 refine Ze (Zt (Zs (Zs (Zr ?_))))
 refine Xv rfl (v_load u3 rfl rfl (at_ownL (vs := [Value.int .i64 4]) Zh rfl)) ?_
 refine Xb rfl (v_lss rfl rfl) fun b6 hb6 => ?_
 refine Ze (Zt ?_)
 refine w_cond rfl (fun hc6 => ?_) (fun hc6 => ?_)
 ·simp [hb6] at hc6
 skip
 refine w_skip (Zt (Zs (Zr ?_)))
 refine Xv rfl (v_func rfl) ?_
 refine Xa ?_
 refine Ze (Zt (w_ret ?_))
 exact ret1 rfl rfl (fun w' hm => ⟨p2, p3, rfl, hm.base (by simp), hm⟩)
set_option maxHeartbeats 1000000 in
theorem c_chunk1 {w : World} {ro : List Snap} {L b2 b3 : Nat} {A : Option Addr} {cp : Nat} {xs : List Int} {σ ρ : Type} (X : σ → List (Nat × Obj)) (Y : ρ → List (Nat × Obj)) (I : Nat → σ → Prop) (J : ρ → Prop) (q : Nat) (hxq : xs.length = 4 * q) (hlc : xs.length ≤ cp) (hmx : xs.length ≤ 1000000000) (x0 : σ) (h0 : I 0 x0) (hm : Mem w ((b3, Obj.cells [Value.int .i64 4].toArray 3 (0, 0)) :: (b2, Obj.cells [Value.slice A xs.length cp].toArray 22 (0, 0)) :: X x0) ro) (hY : ∀ (k : Nat) (x : σ) (w1 : World), k < q → I k x → Mem w1 ((b3, Obj.cells [Value.int .i64 4].toArray 3 (0, 0)) :: (b2, Obj.cells [Value.slice A xs.length cp].toArray 22 (0, 0)) :: X x) ro → YieldAt Fence.wide (2 - 1) Tryz.prog L [Value.slice (A.map (fun a => a.add (4 * k * 1))) 4 4].toArray w1 fun e w2 => ∃ y : σ ⊕ ρ, e = .returned (.bool y.isLeft) ∧ Sum.elim (I (k + 1)) J y ∧ Mem w2 ((b3, Obj.cells [Value.int .i64 4].toArray 3 (0, 0)) :: (b2, Obj.cells [Value.slice A xs.length cp].toArray 22 (0, 0)) :: Sum.elim X Y y) ro) :
  Calls Tryz.prog 88 #[.func (.yield L) #[] #[], .pointer (some ⟨b2, 0, none⟩), .pointer (some ⟨b3, 0, none⟩)] w fun e w' => (∃ v, e = .returned v) ∧ ((∃ x, I q x ∧ Mem w' ((b3, Obj.cells [Value.int .i64 4].toArray 3 (0, 0)) :: (b2, Obj.cells [Value.slice A xs.length cp].toArray 22 (0, 0)) :: X x) ro) ∨ ∃ z, J z ∧ Mem w' ((b3, Obj.cells [Value.int .i64 4].toArray 3 (0, 0)) :: (b2, Obj.cells [Value.slice A xs.length cp].toArray 22 (0, 0)) :: Y z) ro) := by
 refine enter_in hm (vs := [.func (.yield L) #[] #[], .pointer (some ⟨b2, 0, none⟩), .pointer (some ⟨b3, 0, none⟩)]) Tryz.func88 rfl Tryz.ntmps88 rfl ?_
 refine Zs (Zr ?_)
 refine Xa ?_
 refine Ze (Zt (w_block ?_))
 refine w_loop (σ := Nat × σ) (fun x => x.1 ≤ q ∧ I x.1 x.2) (fun x => [(0, Value.func (.yield L) #[] #[]), (1, Value.pointer (some ⟨b2, 0, none⟩)), (2, Value.pointer (some ⟨b3, 0, none⟩)), (4, Value.int .i64 ((4 * x.1 : Nat) : Int))]) (fun x => (b3, Obj.cells [Value.int .i64 4].toArray 3 (0, 0)) :: (b2, Obj.cells [Value.slice A xs.length cp].toArray 22 (0, 0)) :: X x.2) (fun x => ro) (fun x => q - x.1) ((0, x0)) (⟨Nat.zero_le _, h0⟩) (l_start Zu (fun _ h => h)) ?_
 rintro ⟨k, x⟩ ⟨hkq, hI⟩
 refine w_state ([(0, Value.func (.yield L) #[] #[]), (1, Value.pointer (some ⟨b2, 0, none⟩)), (2, Value.pointer (some ⟨b3, 0, none⟩)), (4, Value.int .i64 ((4 * k : Nat) : Int))]) ((b3, Obj.cells [Value.int .i64 4].toArray 3 (0, 0)) :: (b2, Obj.cells [Value.slice A xs.length cp].toArray 22 (0, 0)) :: X x) (ro) ?_
 dsimp only at hkq hI
 refine Zs (Zs (Zr ?_))
 refine Xm ?_
 refine Xv rfl (v_load u22 rfl rfl (at_ownL (vs := [Value.slice A xs.length cp]) (.tail _ (.head _)) rfl)) ?_
 refine Xv rfl (v_len_slice u22 rfl) ?_
 refine Xb rfl (v_lss rfl rfl) fun b9 hb9 => ?_
 refine Ze (Zt ?_)
 refine w_cond rfl (fun hc9 => ?_) (fun hc9 => ?_)
 ·simp only [hb9, Qz, ne_eq] at hc9
  have hkl : k < q := by omega
  refine w_skip (Zt (Zs (w_block (Zs ?_))))
  refine rg_draw 7 [(true, 0), (true, 1), (true, 2), (true, 3), (true, 4), (true, 5), (true, 6)] Zk Zk ?_
  refine Xv rfl (v_load u3 rfl rfl (at_ownL (vs := [Value.int .i64 4]) (.head _) rfl)) ?_
  refine Xv rfl (v_load u22 rfl rfl (at_ownL (vs := [Value.slice A xs.length cp]) (.tail _ (.head _)) rfl)) ?_
  refine Xm ?_
  refine Xv rfl (v_scut_from (i := 4 * k) u22 sz3 rfl rfl (by omega) (by omega)) ?_
  refine Xv rfl (v_len_slice u22 rfl) ?_
  refine Xv (v := Value.int .i64 ((4 : Nat) : Int)) rfl (by rw [show ((4 : Nat) : Int) = min 4 ((xs.length - 4 * k : Nat) : Int) by omega]; exact v_min rfl rfl) ?_
  refine Xa ?_
  refine Ze (Zt (Zs ?_))
  refine rg_yield 10 2 Zk rfl ?_
  refine Xm ?_
  refine Xv rfl (v_load u22 rfl rfl (at_ownL (vs := [Value.slice A xs.length cp]) (.tail _ (.head _)) rfl)) ?_
  refine Xm ?_
  refine Xm ?_
  refine Xm ?_
  refine Xv rfl (v_addi (c := ((4 * k + 4 : Nat) : Int)) rfl rfl (by omega) (by omega)) ?_
  refine Xm ?_
  refine Xm ?_
  refine Xv rfl (v_addi (c := ((4 * k + 4 : Nat) : Int)) rfl rfl (by omega) (by omega)) ?_
  refine Xv (v := Value.slice (A.map (fun a => a.add (4 * k * 1))) 4 4) rfl (v_chunk (i := 4 * k) (n0 := 4) u22 sz3 rfl rfl rfl rfl (by decide) (by omega)) ?_
  refine Ze ?_
  refine s_yieldV (fun y : σ ⊕ ρ => .bool y.isLeft) (Sum.elim (I (k + 1)) J) (fun y => (b3, Obj.cells [Value.int .i64 4].toArray 3 (0, 0)) :: (b2, Obj.cells [Value.slice A xs.length cp].toArray 22 (0, 0)) :: Sum.elim X Y y) rfl rfl rfl rfl rfl (fun w1 hw1 => hY k x w1 hkl hI hw1) fun y hy => ?_
  refine s_rest Zk rfl ?_
  refine Xb rfl (v_not rfl) fun b30 hb30 => ?_
  refine Ze (Zt ?_)
  refine w_cond rfl (fun hc30 => ?_) (fun hc30 => ?_)
  ·obtain ⟨z, rfl⟩ : ∃ z, y = .inr z := by rw [hb30] at hc30; cases y with | inl x => simp at hc30 | inr z => exact ⟨z, rfl⟩
   refine w_ret (b_ret (t_ret (t_ret (b_ret ?_))))
   exact retn rfl (fun w' hm => ⟨⟨_, rfl⟩, .inr ⟨z, hy, hm⟩⟩)
  obtain ⟨x', rfl⟩ : ∃ x', y = .inl x' := by rw [hb30] at hc30; cases y with | inl x => exact ⟨x, rfl⟩ | inr z => simp at hc30
  refine w_skip (b_norm (Zt (Zr ?_)))
  refine Xm ?_
  refine Xv rfl (v_load u3 rfl rfl (at_ownL (vs := [Value.int .i64 4]) (.head _) rfl)) ?_
  refine Xv rfl (v_addi (c := ((4 * (k + 1) : Nat) : Int)) rfl rfl (by omega) (by omega)) ?_
  refine Xa ?_
  refine Ze ?_
  exact l_norm (x := (k, x)) (μ := fun x : Nat × σ => q - x.1) (k + 1, x') ⟨hkl, hy⟩ (by simp only; omega) Zu (fun _ h => h)
 simp only [hb9, Qz, ne_eq] at hc9
 obtain rfl : k = q := by omega
 refine w_exit ?_
 refine t_exit ?_
 refine t_exit ?_
 refine b_hit ?_
 exact ret0 rfl (fun w' hm => ⟨⟨_, rfl⟩, .inl ⟨x, hI, hm⟩⟩)
end Go.Proofs.YtaniaihoodgmpaaGreatDoor

namespace Go.Proofs.YtaniaihoodgmpaaGreatDoor
open Go.RowKit Go.PK
theorem s_less {n : Nat} {l : List (Nat × Value)} {own own' : List (Nat × Obj)} {ro : List Snap} {K : Act → World → Prop} (hs : own'.Sublist own) (h : S K n l own' ro) : S K n l own ro := fun a w ha hw => h a w ha (hw.less hs (fun _ h => h))
attribute [local irreducible] WX
theorem k_at4 {D : Nat → Prop} {w : World} {A : Option Addr} {l c : Nat} {xs : List Int} (h : sliceRd tyI D w (.slice A l c) xs) {k : Nat} (hk : k + 3 < xs.length) :
  ∃ bb off a0 a1 a2 a3, A = some ⟨bb, off, none⟩ ∧ D bb ∧ w.cell? ⟨bb, off + (k + 0), none⟩ = some (.int .i64 a0) ∧ w.cell? ⟨bb, off + (k + 1), none⟩ = some (.int .i64 a1) ∧ w.cell? ⟨bb, off + (k + 2), none⟩ = some (.int .i64 a2) ∧ w.cell? ⟨bb, off + (k + 3), none⟩ = some (.int .i64 a3) ∧ in64 a0 ∧ in64 a1 ∧ in64 a2 ∧ in64 a3 ∧ xs.drop k = a0 :: a1 :: a2 :: a3 :: xs.drop (k + 4) := by
 obtain ⟨A', c', e, h1, h2, h3⟩ := h
 injection e with e1 e2 e3
 obtain ⟨bb, off, hA, hD, hb, hc⟩ := h3 (by omega)
 have key : ∀ j (hj : j < xs.length), w.cell? ⟨bb, off + j, none⟩ = some (.int .i64 xs[j]) ∧ in64 xs[j] := fun j hj => by
  obtain ⟨cs, hcs, rfl, hok⟩ := hc j hj
  have := hcs 0 (by simp)
  exact ⟨by simpa [tyI] using this, hok⟩
 refine ⟨bb, off, xs[k], xs[k + 1], xs[k + 2], xs[k + 3], e1.trans hA, hD, (key k (by omega)).1, (key _ (by omega)).1, (key _ (by omega)).1, (key _ (by omega)).1, (key _ (by omega)).2, (key _ (by omega)).2, (key _ (by omega)).2, (key _ (by omega)).2, ?_⟩
 rw [List.drop_eq_getElem_cons (by omega), List.drop_eq_getElem_cons (by omega), List.drop_eq_getElem_cons (by omega), List.drop_eq_getElem_cons (by omega)]
set_option maxHeartbeats 2000000 in
theorem c_Open (s : ByteArray) (w : World) (hs : s.size ≤ 2000000) (hL : LD w) :
  Calls Tryz.prog 23 #[.string s] w fun e w' => ∃ v, e = .returned (.tuple #[v, .int .i64 (if (openG readQ s).isSome then 0 else 11)]) ∧ Later w w' ∧ OpOK (fun b => w.heap.size ≤ b) w' v (openG readQ s) := by
 refine enterM (vs := [.string s]) 2 Tryz.func23 rfl Tryz.ntmps23 rfl ?_
 refine Zs (Zr ?_)
 refine x_alloc rfl rfl rfl zr28 ?_
 intro p2
 refine x_alloc rfl rfl rfl zr36 ?_
 intro p3
 refine Ze (Zt (Zs (Zr ?_)))
 refine Xm ?_
 refine x_call (R := fun v wa wb => ∃ v2, v = .tuple #[v2, Value.int .i64 (unpQ s).2] ∧ sliceRd tyStr (fun b => wa.heap.size ≤ b) wb v2 (unpQ s).1) rfl rfl rfl Tryz.func56 Zk rfl (fun w1 hw1 => (c_Unp s w1 hs).mono fun e w2 ⟨v, h1, h2, h3⟩ => ⟨_, h1, h2, v, rfl, h3⟩) fun v14 wa14 wb14 hm14 hl14 hR14 => ?_
 obtain ⟨v14_, rfl, hn14⟩ := hR14
 obtain ⟨A14, k14, rfl, _⟩ := id hn14
 obtain ⟨us, hus⟩ : ∃ l, (unpQ s).1 = l := ⟨_, rfl⟩
 obtain ⟨ue, hue⟩ : ∃ l, (unpQ s).2 = l := ⟨_, rfl⟩
 rw [hus] at hn14
 rw [hus, hue]
 refine Xm ?_
 refine Xv rfl (v_extract rfl rfl) ?_
 refine Xv rfl (v_extract rfl rfl) ?_
 refine Xa ?_
 refine Xa ?_
 refine Ze (Zt (Zs (Zs (Zr ?_))))
 refine Xm ?_
 refine Xb rfl (v_neq rfl rfl) fun b18 hb18 => ?_
 refine Xm ?_
 refine Xg ?_
 refine Xi rfl rfl rfl (fun hg0 => by subst hg0; (try simp only [Qy]); exact v_len_slice u55 rfl) ?_
 refine Xj rfl rfl rfl (fun hg0 => by subst hg0; (try simp only [Qy]); exact v_neq rfl rfl) fun b22 hb22 => ?_
 refine Xb rfl (v_or rfl rfl) fun b23 hb23 => ?_
 refine Ze (Zt ?_)
 refine w_cond rfl (fun hc23 => ?_) (fun hc23 => ?_)
 ·simp only [hb23, hb22, hb18, Qz, ne_eq] at hc23
  have hF : openG readQ s = none := by
   unfold openG
   rw [hus, hue, if_pos (by rcases hc23 with h | h; (· exact .inl h); exact .inr (by omega))]
  refine Zs (Zr ?_)
  refine x_store (cs := [Value.pointer none]) (off := 0) (e := 28) (l2 := []) [(p3, Obj.cells [Value.int .i64 0].toArray 36 (0, 0))] rfl rfl rfl rfl sz28 rfl (by show 1 ≤ 1; decide) ?_
  refine x_store (cs := [Value.int .i64 0]) (off := 0) (e := 36) (l2 := [(p2, Obj.cells [Value.pointer none].toArray 28 (0, 0))]) [] rfl rfl rfl rfl sz36 rfl (by show 1 ≤ 1; decide) ?_
  refine Ze (Zt (w_ret (t_ret ?_)))
  refine ret2M0 (m := 2) (b := p2) (b2 := p3) (v := .pointer none) (v2 := Value.int .i64 11) rfl rfl rfl u28 rfl u36 rfl (at_ownL (vs := [Value.pointer none]) Zh rfl) (at_ownL (vs := [Value.int .i64 11]) Zh rfl) (fun w' hm => ⟨_, by rw [hF]; rfl, hm.base (by simp), by rw [hF]; exact rfl⟩)
 simp only [hb23, hb22, hb18, Qz, ne_eq] at hc23
 obtain ⟨hue0, hul⟩ : ue = 0 ∧ us.length = 2 := ⟨hc23.1, by have := hc23.2; omega⟩
 subst hue0
 obtain ⟨t0, t1, rfl⟩ : ∃ a b, us = [a, b] := by
  match us, hul with
  | [a, b], _ => exact ⟨a, b, rfl⟩
 obtain ⟨b14, o14, hA0, hD0, hc0, hz0⟩ := s_at hn14 (k := 0) (by simp)
 obtain ⟨b15, o15, hA1, hD1, hc1, hz1⟩ := s_at hn14 (k := 1) (by simp)
 have hsz := unp_back (s := s) (xs := [t0, t1]) (by rw [← hus, ← hue])
 have hs0 : t0.size ≤ s.size ∧ t1.size ≤ s.size := by
  have h := congrArg List.length hsz
  rw [bl_len] at h
  unfold packG at h
  simp only [List.flatMap_cons, List.flatMap_nil, List.length_append, bl_len] at h
  omega
 refine w_skip (Zt (Zs (Zr ?_)))
 refine Xv rfl (v_buildL (places := [(0, 4), (4, 1)]) u61 zr61 Zk rfl rfl) ?_
 refine x_box rfl rfl rfl rfl ?_
 intro p25
 refine x_alloc rfl rfl rfl zr28 ?_
 intro p6
 refine x_store [] rfl rfl rfl rfl sz28 rfl (by first | decide | simp) ?_
 refine Ze (Zt ?_)
 refine w_seq_cut (σ := Pat × Int × Option Addr × Nat × Option Addr × Nat × World) (fun y => headQ readQ t0 = (y.1, y.2.1) ∧ patRd (newD w ([(p6, Obj.cells [Value.pointer (some ⟨p25, 0, none⟩)].toArray 28 (0, 0)), (p25, Obj.cells ([Value.int .i64 y.1.first, Value.int .i64 y.1.days, Value.slice y.2.2.1 y.1.lv.length y.2.2.2.1, Value.slice y.2.2.2.2.1 y.1.st.length y.2.2.2.2.2.1, Value.slice none 0 0]).toArray 61 (0, 0)), (p3, Obj.cells [Value.int .i64 0].toArray 36 (0, 0)), (p2, Obj.cells [Value.pointer none].toArray 28 (0, 0))])) y.2.2.2.2.2.2 y.1 (Value.slice y.2.2.1 y.1.lv.length y.2.2.2.1) (Value.slice y.2.2.2.2.1 y.1.st.length y.2.2.2.2.2.1)) (fun y => [(2, Value.pointer (some ⟨p2, 0, none⟩)), (3, Value.pointer (some ⟨p3, 0, none⟩)), (4, Value.slice A14 2 k14), (5, Value.int .i64 y.2.1), (6, Value.pointer (some ⟨p6, 0, none⟩))]) (fun y => [(p6, Obj.cells [Value.pointer (some ⟨p25, 0, none⟩)].toArray 28 (0, 0)), (p25, Obj.cells ([Value.int .i64 y.1.first, Value.int .i64 y.1.days, Value.slice y.2.2.1 y.1.lv.length y.2.2.2.1, Value.slice y.2.2.2.2.1 y.1.st.length y.2.2.2.2.2.1, Value.slice none 0 0]).toArray 61 (0, 0)), (p3, Obj.cells [Value.int .i64 0].toArray 36 (0, 0)), (p2, Obj.cells [Value.pointer none].toArray 28 (0, 0))]) (fun y => (y.2.2.2.2.2.2, notOwn ([(p6, Obj.cells [Value.pointer (some ⟨p25, 0, none⟩)].toArray 28 (0, 0)), (p25, Obj.cells ([Value.int .i64 y.1.first, Value.int .i64 y.1.days, Value.slice y.2.2.1 y.1.lv.length y.2.2.2.1, Value.slice y.2.2.2.2.1 y.1.st.length y.2.2.2.2.2.1, Value.slice none 0 0]).toArray 61 (0, 0)), (p3, Obj.cells [Value.int .i64 0].toArray 36 (0, 0)), (p2, Obj.cells [Value.pointer none].toArray 28 (0, 0))])) :: (wb14, notOwn [(p3, Obj.cells [Value.int .i64 0].toArray 36 (0, 0)), (p2, Obj.cells [Value.pointer none].toArray 28 (0, 0))]) :: [(w, fun _ => True)]) ?_ ?_
 ·refine w_seq ?_
  refine Zr ?_
  refine Xm ?_
  refine Xv rfl (v_indexAddr (j := 0) u55 sz9 (congrArg (fun A => some (Value.slice A 2 k14)) hA0) rfl (by simp) rfl) ?_
  refine Xv rfl (v_load u9 rfl rfl (at_ro (s := (wb14, notOwn [(p3, Obj.cells [Value.int .i64 0].toArray 36 (0, 0)), (p2, Obj.cells [Value.pointer none].toArray 28 (0, 0))])) Zh (fun q hq he => by have := hm14.lt hq; omega) (by rw [Nat.mul_one]; exact hc0))) ?_
  refine Xb rfl (v_sneq rfl rfl) fun b29 hb29 => ?_
  refine Ze (Zt ?_)
  refine w_cond rfl (fun hc29 => ?_) (fun hc29 => ?_)
  ·simp only [hb29, Qz, ne_eq] at hc29
   have htn : t0 ≠ ⟨#[]⟩ := hc29
   refine rg_inv ([(p6, Obj.cells [Value.pointer (some ⟨p25, 0, none⟩)].toArray 28 (0, 0))]) 12 (.flt 0 (.flt 1 (.flt 2 (.flt 3 (.gr 4 (.flt 5 (.flt 6 (.flt 7 (.flt 8 (.flt 9 (.gr 10 (.flt 11 .done) .nil)))))) .nil))))) (by repeat (first | exact (List.nil_sublist _).cons_cons _ | apply List.Sublist.cons)) Zk Zk ?_
   refine k_val rfl rfl (Vl u28 rfl) ?_
   refine k_val rfl rfl (v_move rfl) ?_
   refine k_val rfl rfl (v_indexAddr (j := 0) u55 sz9 (congrArg (fun A => some (Value.slice A 2 k14)) hA0) rfl (by simp) rfl) ?_
   refine k_val rfl rfl (v_load u9 rfl rfl (at_ro (s := (wb14, notOwn [(p3, Obj.cells [Value.int .i64 0].toArray 36 (0, 0)), (p2, Obj.cells [Value.pointer none].toArray 28 (0, 0))])) Zh (fun q hq he => by have := hm14.lt hq; omega) (by rw [Nat.mul_one]; exact hc0))) ?_
   refine k_gr ?_ k_nil
   refine x_call (R := fun v wa wb => ∃ v1 v2, v = .tuple #[.agg #[.int .i64 (readQ t0).1.first, .int .i64 (readQ t0).1.days, v1, v2], Value.int .i64 (readQ t0).2] ∧ patRd (fun b => wa.heap.size ≤ b) wb (readQ t0).1 v1 v2) rfl rfl rfl Tryz.func28 Zk rfl (fun w1 hw1 => (c_Read t0 w1 (by omega) (hL.later (hw1.base (by simp)))).mono fun e w2 ⟨v1, v2, h1, h2, h3⟩ => ⟨_, h1, h2, v1, v2, rfl, h3⟩) fun v35 wa35 wb35 hm35 hl35 hR35 => ?_
   obtain ⟨v1, v2, rfl, hpr⟩ := hR35
   obtain ⟨p, hp⟩ : ∃ p, (readQ t0).1 = p := ⟨_, rfl⟩
   obtain ⟨e5, he5⟩ : ∃ e, (readQ t0).2 = e := ⟨_, rfl⟩
   rw [hp] at hpr
   rw [hp, he5]
   obtain ⟨A1, c1, rfl, -⟩ := id hpr.2.2.1
   obtain ⟨A2, c2, rfl, -⟩ := id hpr.2.2.2
   refine Ze ?_
   refine k_end ((List.nil_sublist _).cons_cons _) (fun _ h => List.mem_cons_of_mem _ h) ?_
   refine k_val rfl rfl (v_move rfl) ?_
   refine k_val rfl rfl (v_extract rfl rfl) ?_
   refine k_val rfl rfl (v_extract rfl rfl) ?_
   refine k_val rfl rfl (v_nilCheck rfl) ?_
   refine k_val rfl rfl (v_fieldAddr u61 rfl sz26 (by decide) rfl rfl) ?_
   refine k_gr ?_ k_nil
   refine x_store (cs := [Value.int .i64 0, Value.int .i64 0, Value.slice none 0 0, Value.slice none 0 0, Value.slice none 0 0]) (off := 0) (e := 61) (l2 := [(p3, Obj.cells [Value.int .i64 0].toArray 36 (0, 0)), (p2, Obj.cells [Value.pointer none].toArray 28 (0, 0))]) [(p6, Obj.cells [Value.pointer (some ⟨p25, 0, none⟩)].toArray 28 (0, 0))] rfl rfl rfl rfl sz26 rfl (by show 4 ≤ 5; decide) ?_
   refine Ze ?_
   refine k_end (List.sublist_append_left _ _) (fun _ h => List.mem_cons_of_mem _ h) ?_
   refine k_val rfl rfl (v_assign rfl) ?_
   refine k_done ?_
   refine Ze ?_
   refine s_fix ([(p6, Obj.cells [Value.pointer (some ⟨p25, 0, none⟩)].toArray 28 (0, 0)), (p25, Obj.cells ([Value.int .i64 p.first, Value.int .i64 p.days, Value.slice A1 p.lv.length c1, Value.slice A2 p.st.length c2, Value.slice none 0 0]).toArray 61 (0, 0)), (p3, Obj.cells [Value.int .i64 0].toArray 36 (0, 0)), (p2, Obj.cells [Value.pointer none].toArray 28 (0, 0))]) (List.Sublist.refl _) (fun w0 hm0 => ?_)
   exact c_norm (p, e5, A1, c1, A2, c2, w0) ⟨by unfold headQ; rw [if_pos htn, ← hp, ← he5], patRd.keep hpr (Kept.made hm0 Zh hm35 (hm35.base (by simp)).size)⟩ Zu (fun w1 h => h.less (List.Sublist.refl _) (fun s hs => by simp only [List.mem_cons] at hs ⊢; rcases hs with h | h | h; (· exact .inl h); (· exact .inr (.inr (.inl h))); exact .inr (.inr (.inr h))))
  simp only [hb29, Qz, ne_eq] at hc29
  have htn : t0 = ⟨#[]⟩ := hc29
  refine w_skip ?_
  refine s_fix ([(p6, Obj.cells [Value.pointer (some ⟨p25, 0, none⟩)].toArray 28 (0, 0)), (p25, Obj.cells ([Value.int .i64 0, Value.int .i64 0, Value.slice none 0 0, Value.slice none 0 0, Value.slice none 0 0]).toArray 61 (0, 0)), (p3, Obj.cells [Value.int .i64 0].toArray 36 (0, 0)), (p2, Obj.cells [Value.pointer none].toArray 28 (0, 0))]) (List.Sublist.refl _) (fun w0 hm0 => ?_)
  exact c_norm (zeroPat, 0, none, 0, none, 0, w0) ⟨by unfold headQ; rw [if_neg (fun h => h htn)], (show in64 0 by unfold in64; decide), (show in64 0 by unfold in64; decide), ⟨none, 0, rfl, Nat.le_refl _, Nat.zero_le _, fun h => absurd h (Nat.lt_irrefl 0)⟩, ⟨none, 0, rfl, Nat.le_refl _, Nat.zero_le _, fun h => absurd h (Nat.lt_irrefl 0)⟩⟩ Zu (fun w1 h => h)
 rintro ⟨p, e5, A1, c1, A2, c2, ws⟩ ⟨hpe, hpr⟩
 refine w_state ([(2, Value.pointer (some ⟨p2, 0, none⟩)), (3, Value.pointer (some ⟨p3, 0, none⟩)), (4, Value.slice A14 2 k14), (5, Value.int .i64 e5), (6, Value.pointer (some ⟨p6, 0, none⟩))]) ([(p6, Obj.cells [Value.pointer (some ⟨p25, 0, none⟩)].toArray 28 (0, 0)), (p25, Obj.cells ([Value.int .i64 p.first, Value.int .i64 p.days, Value.slice A1 p.lv.length c1, Value.slice A2 p.st.length c2, Value.slice none 0 0]).toArray 61 (0, 0)), (p3, Obj.cells [Value.int .i64 0].toArray 36 (0, 0)), (p2, Obj.cells [Value.pointer none].toArray 28 (0, 0))]) ((ws, notOwn ([(p6, Obj.cells [Value.pointer (some ⟨p25, 0, none⟩)].toArray 28 (0, 0)), (p25, Obj.cells ([Value.int .i64 p.first, Value.int .i64 p.days, Value.slice A1 p.lv.length c1, Value.slice A2 p.st.length c2, Value.slice none 0 0]).toArray 61 (0, 0)), (p3, Obj.cells [Value.int .i64 0].toArray 36 (0, 0)), (p2, Obj.cells [Value.pointer none].toArray 28 (0, 0))])) :: (wb14, notOwn [(p3, Obj.cells [Value.int .i64 0].toArray 36 (0, 0)), (p2, Obj.cells [Value.pointer none].toArray 28 (0, 0))]) :: [(w, fun _ => True)]) ?_
 dsimp only at hpe hpr
 have hG : openG readQ s = if e5 ≠ 0 ∨ (riQ t1).2 ≠ 0 ∨ (riQ t1).1.length % 4 ≠ 0 ∨ (0 < (riQ t1).1.length ∧ t0 = ⟨#[]⟩) then none else (opE 0 (riQ t1).1).map fun es => (p, es) := by
  unfold openG
  rw [hus, hue, if_neg (by simp)]
  show (if (headQ readQ t0).2 ≠ 0 ∨ (riQ t1).2 ≠ 0 ∨ (riQ t1).1.length % 4 ≠ 0 ∨ (0 < (riQ t1).1.length ∧ t0 = ⟨#[]⟩) then none else (opE 0 (riQ t1).1).map fun es => ((headQ readQ t0).1, es)) = _
  rw [hpe]
 refine Zs (Zr ?_)
 refine Xm ?_
 refine Xv rfl (v_indexAddr (j := 1) u55 sz9 (congrArg (fun A => some (Value.slice A 2 k14)) hA1) rfl (by simp) rfl) ?_
 refine Xv rfl (v_load u9 rfl rfl (at_ro (s := (wb14, notOwn [(p3, Obj.cells [Value.int .i64 0].toArray 36 (0, 0)), (p2, Obj.cells [Value.pointer none].toArray 28 (0, 0))])) Zh (fun q hq he => by have := hm14.lt hq; omega) (by rw [Nat.mul_one]; exact hc1))) ?_
 refine x_call (R := fun v wa wb => ∃ v2, v = .tuple #[v2, Value.int .i64 (riQ t1).2] ∧ sliceRd tyI (fun b => wa.heap.size ≤ b) wb v2 (riQ t1).1) rfl rfl rfl Tryz.func57 Zk rfl (fun w1 hw1 => (c_RI t1 w1 (by omega)).mono fun e w2 ⟨v, h1, h2, h3⟩ => ⟨_, h1, h2, v, rfl, h3⟩) fun v44 wa44 wb44 hm44 hl44 hR44 => ?_
 obtain ⟨v44_, rfl, hn44⟩ := hR44
 obtain ⟨A44, k44, rfl, _⟩ := id hn44
 obtain ⟨xs, hxs⟩ : ∃ l, (riQ t1).1 = l := ⟨_, rfl⟩
 obtain ⟨fe, hfe⟩ : ∃ l, (riQ t1).2 = l := ⟨_, rfl⟩
 rw [hxs] at hn44
 rw [hxs, hfe] at hG
 rw [hxs, hfe]
 refine Xm ?_
 refine Xv rfl (v_extract rfl rfl) ?_
 refine Xv rfl (v_extract rfl rfl) ?_
 refine Xa ?_
 refine Xa ?_
 refine Ze (Zt (Zs (Zs (Zr ?_))))
 refine Xm ?_
 refine Xb rfl (v_neq rfl rfl) fun b48 hb48 => ?_
 refine Xm ?_
 refine Xg ?_
 refine Xj rfl rfl rfl (fun hg0 => by subst hg0; (try simp only [Qy]); exact v_neq rfl rfl) fun b51 hb51 => ?_
 refine Xb rfl (v_or rfl rfl) fun b52 hb52 => ?_
 refine Xm ?_
 refine Xg ?_
 refine Xi rfl rfl rfl (fun hg0 => by subst hg0; (try simp only [Qy]); exact v_len_slice u22 rfl) ?_
 refine x_if [] (v := Value.int .i64 ((xs.length % 4 : Nat) : Int)) rfl rfl rfl rfl rfl (fun hg => by obtain ⟨hg0, _⟩ := hg; subst hg0; (try simp only [Qy]); exact v_remN (b := 4) rfl rfl (by decide)) ?_
 refine Xj rfl rfl rfl (fun hg0 => by subst hg0; (try simp only [Qy]); exact v_neq rfl rfl) fun b57 hb57 => ?_
 refine Xb rfl (v_or rfl rfl) fun b58 hb58 => ?_
 refine Xm ?_
 refine Xg ?_
 refine Xi rfl rfl rfl (fun hg0 => by subst hg0; (try simp only [Qy]); exact v_len_slice u22 rfl) ?_
 refine Xj rfl rfl rfl (fun hg0 => by subst hg0; (try simp only [Qy]); exact v_gtr rfl rfl) fun b62 hb62 => ?_
 refine Xg ?_
 refine x_if [(b58, false)] rfl rfl rfl rfl rfl (fun hg => by obtain ⟨hg0, hg1, _⟩ := hg; subst hg0; subst hg1; (try simp only [Qy]); exact v_move rfl) ?_
 refine x_if [(b58, false)] rfl rfl rfl rfl rfl (fun hg => by obtain ⟨hg0, hg1, _⟩ := hg; subst hg0; subst hg1; (try simp only [Qy]); exact v_indexAddr (j := 0) u55 sz9 (congrArg (fun A => some (Value.slice A 2 k14)) hA0) rfl (by simp) rfl) ?_
 refine x_if [(b58, false)] rfl rfl rfl rfl rfl (fun hg => by obtain ⟨hg0, hg1, _⟩ := hg; subst hg0; subst hg1; (try simp only [Qy]); exact v_load u9 rfl rfl (at_ro (s := (wb14, notOwn [(p3, Obj.cells [Value.int .i64 0].toArray 36 (0, 0)), (p2, Obj.cells [Value.pointer none].toArray 28 (0, 0))])) Zh (fun q hq he => by have := hm14.lt hq; omega) (by rw [Nat.mul_one]; exact hc0))) ?_
 refine x_ifb [(b58, false)] rfl rfl rfl rfl rfl (fun hg => by obtain ⟨hg0, hg1, _⟩ := hg; subst hg0; subst hg1; (try simp only [Qy]); exact v_seql rfl rfl) fun b67 hb67 => ?_
 refine Xj rfl rfl rfl (fun hg0 => by subst hg0; (try simp only [Qy]); exact v_and rfl rfl) fun b68 hb68 => ?_
 refine Xb rfl (v_or rfl rfl) fun b69 hb69 => ?_
 refine Ze (Zt ?_)
 refine w_cond rfl (fun hc69 => ?_) (fun hc69 => ?_)
 ·simp only [hb69, hb68, hb67, hb62, hb58, hb57, hb52, hb51, hb48, Qz, ne_eq] at hc69
  have hF : openG readQ s = none := by
   rw [hG, if_pos]
   rcases hc69 with ((h | h) | h) | h
   ·exact .inl h
   ·exact .inr (.inl h)
   ·exact .inr (.inr (.inl (by omega)))
   exact .inr (.inr (.inr ⟨by omega, h.2⟩))
  refine Zs (Zr ?_)
  refine x_store (cs := [Value.pointer none]) (off := 0) (e := 28) (l2 := []) [(p6, Obj.cells [Value.pointer (some ⟨p25, 0, none⟩)].toArray 28 (0, 0)), (p25, Obj.cells ([Value.int .i64 p.first, Value.int .i64 p.days, Value.slice A1 p.lv.length c1, Value.slice A2 p.st.length c2, Value.slice none 0 0]).toArray 61 (0, 0)), (p3, Obj.cells [Value.int .i64 0].toArray 36 (0, 0))] rfl rfl rfl rfl sz28 rfl (by show 1 ≤ 1; decide) ?_
  refine x_store (cs := [Value.int .i64 0]) (off := 0) (e := 36) (l2 := [(p2, Obj.cells [Value.pointer none].toArray 28 (0, 0))]) [(p6, Obj.cells [Value.pointer (some ⟨p25, 0, none⟩)].toArray 28 (0, 0)), (p25, Obj.cells ([Value.int .i64 p.first, Value.int .i64 p.days, Value.slice A1 p.lv.length c1, Value.slice A2 p.st.length c2, Value.slice none 0 0]).toArray 61 (0, 0))] rfl rfl rfl rfl sz36 rfl (by show 1 ≤ 1; decide) ?_
  refine Ze (Zt (w_ret (t_ret ?_)))
  refine ret2M0 (m := 2) (b := p2) (b2 := p3) (v := .pointer none) (v2 := Value.int .i64 11) rfl rfl rfl u28 rfl u36 rfl (at_ownL (vs := [Value.pointer none]) Zh rfl) (at_ownL (vs := [Value.int .i64 11]) Zh rfl) (fun w' hm => ⟨_, by rw [hF]; rfl, hm.base (by simp), by rw [hF]; exact rfl⟩)
 simp only [hb69, hb68, hb67, hb62, hb58, hb57, hb52, hb51, hb48, Qz, ne_eq] at hc69
 obtain ⟨⟨⟨he0, hf0⟩, hl4⟩, hl0⟩ := hc69
 rw [if_neg (by rintro (h | h | h | h); (· exact h he0); (· exact h hf0); (· omega); rcases hl0 with h9 | h9; (· omega); exact h9 h.2)] at hG
 refine w_skip (Zt (Zs (Zr ?_)))
 refine x_alloc rfl rfl rfl zr3 ?_
 intro p9
 refine x_store [] rfl rfl rfl rfl sz3 rfl (by first | decide | simp) ?_
 refine Ze (Zt (Zs (Zs (Zr ?_))))
 refine Xm ?_
 refine x_own (τ := Nat × Nat) (fun x => .func (.func 88) #[] #[.pointer (some ⟨x.1, 0, none⟩), .pointer (some ⟨x.2, 0, none⟩)]) (fun _ => True) (fun x => (x.2, Obj.cells [Value.int .i64 4].toArray 3 (0, 0)) :: (x.1, Obj.cells [Value.slice A44 xs.length k44].toArray 22 (0, 0)) :: (p9, Obj.cells [Value.int .i64 0].toArray 3 (0, 0)) :: [(p6, Obj.cells [Value.pointer (some ⟨p25, 0, none⟩)].toArray 28 (0, 0)), (p25, Obj.cells ([Value.int .i64 p.first, Value.int .i64 p.days, Value.slice A1 p.lv.length c1, Value.slice A2 p.st.length c2, Value.slice none 0 0]).toArray 61 (0, 0)), (p3, Obj.cells [Value.int .i64 0].toArray 36 (0, 0)), (p2, Obj.cells [Value.pointer none].toArray 28 (0, 0))]) rfl rfl rfl Tryz.func58 Zk rfl (fun w1 hw1 => (c_chunk A44 xs.length k44 w1).mono fun e w2 ⟨b2, b3, h1, h2, h3⟩ => ⟨(b2, b3), h1, h2, trivial, (hw1.join2 h3).to (by first | (simp; done) | (simp; rfl))⟩) ?_
 rintro ⟨b2, b3⟩ _
 refine Ze (Zt (w_block ?_))
 have hlc44 : xs.length ≤ k44 := by
  obtain ⟨A', c', e, h1, _⟩ := id hn44
  injection e with _ _ e3
  omega
 have hxl : xs.length ≤ 2000000 := by
  have := ri_len (s := t1) (xs := xs) (by rw [← hxs, ← hf0, ← hfe])
  omega
 refine w_rangeR (τ := Int × List Ent × RowS) (σ := Int × List Ent × RowS) (fun x => opE 0 xs = (opE x.1 (xs.drop (4 * (xs.length / 4)))).map (x.2.1 ++ ·) ∧ (0 ≤ x.1 ∧ x.1 ≤ 100000) ∧ x.2.1.length = (xs.length / 4) ∧ rowOK 4 x.2.2 x.2.1.length (entsC x.2.1) ∧ ∀ y ∈ x.2.1, entOK y) (fun x => (b3, Obj.cells [Value.int .i64 4].toArray 3 (0, 0)) :: (b2, Obj.cells [Value.slice A44 xs.length k44].toArray 22 (0, 0)) :: (p9, Obj.cells [Value.int .i64 x.1].toArray 3 (0, 0)) :: (p6, Obj.cells [Value.pointer (some ⟨p25, 0, none⟩)].toArray 28 (0, 0)) :: (p25, Obj.cells ([Value.int .i64 p.first, Value.int .i64 p.days, Value.slice A1 p.lv.length c1, Value.slice A2 p.st.length c2, rowV x.2.2 x.2.1.length]).toArray 61 (0, 0)) :: (p3, Obj.cells [Value.int .i64 0].toArray 36 (0, 0)) :: (p2, Obj.cells [Value.pointer none].toArray 28 (0, 0)) :: rowO 85 x.2.2) (fun z => opE 0 xs = none) (fun z => (b3, Obj.cells [Value.int .i64 4].toArray 3 (0, 0)) :: (b2, Obj.cells [Value.slice A44 xs.length k44].toArray 22 (0, 0)) :: (p9, Obj.cells [Value.int .i64 z.1].toArray 3 (0, 0)) :: (p6, Obj.cells [Value.pointer (some ⟨p25, 0, none⟩)].toArray 28 (0, 0)) :: (p25, Obj.cells ([Value.int .i64 p.first, Value.int .i64 p.days, Value.slice A1 p.lv.length c1, Value.slice A2 p.st.length c2, rowV z.2.2 z.2.1.length]).toArray 61 (0, 0)) :: (p3, Obj.cells [Value.int .i64 11].toArray 36 (0, 0)) :: (p2, Obj.cells [Value.pointer none].toArray 28 (0, 0)) :: rowO 85 z.2.2) rfl (enters_of Tryz.func88 Zk rfl) ?_ ?_ ?_
 ·intro L D fn tmps w1 rr rd hrr hrd hfh hm1
  refine (c_chunk1 (L := L) (b2 := b2) (b3 := b3) (cp := k44) (A := A44) (xs := xs) (fun x : Int × List Ent × RowS => (L, .loop rr) :: (D, .deferred (some [])) :: (p9, Obj.cells [Value.int .i64 x.1].toArray 3 (0, 0)) :: (p6, Obj.cells [Value.pointer (some ⟨p25, 0, none⟩)].toArray 28 (0, 0)) :: (p25, Obj.cells ([Value.int .i64 p.first, Value.int .i64 p.days, Value.slice A1 p.lv.length c1, Value.slice A2 p.st.length c2, rowV x.2.2 x.2.1.length]).toArray 61 (0, 0)) :: (p3, Obj.cells [Value.int .i64 0].toArray 36 (0, 0)) :: (p2, Obj.cells [Value.pointer none].toArray 28 (0, 0)) :: rowO 85 x.2.2) (fun z : Int × List Ent × RowS => (L, .loop rd) :: (D, .deferred (some [])) :: (p9, Obj.cells [Value.int .i64 z.1].toArray 3 (0, 0)) :: (p6, Obj.cells [Value.pointer (some ⟨p25, 0, none⟩)].toArray 28 (0, 0)) :: (p25, Obj.cells ([Value.int .i64 p.first, Value.int .i64 p.days, Value.slice A1 p.lv.length c1, Value.slice A2 p.st.length c2, rowV z.2.2 z.2.1.length]).toArray 61 (0, 0)) :: (p3, Obj.cells [Value.int .i64 11].toArray 36 (0, 0)) :: (p2, Obj.cells [Value.pointer none].toArray 28 (0, 0)) :: rowO 85 z.2.2) (fun k x => opE 0 xs = (opE x.1 (xs.drop (4 * k))).map (x.2.1 ++ ·) ∧ (0 ≤ x.1 ∧ x.1 ≤ 100000) ∧ x.2.1.length = k ∧ rowOK 4 x.2.2 x.2.1.length (entsC x.2.1) ∧ ∀ y ∈ x.2.1, entOK y) (fun z => opE 0 xs = none) (xs.length / 4) (by omega) hlc44 (by omega) (0, [], none) ⟨by simp, by decide, rfl, rowOK_nil, (fun y hy => by cases hy)⟩ (hm1.perm (List.perm_append_comm_assoc [_, _] [_, _] _)) ?_).mono ?_
  ·rintro k ⟨nx, es, R⟩ w2 hk ⟨hO, hnx, hlk, hR, hok⟩ hm2
   dsimp only at hO hnx hlk hR hok hm2
   subst hrr hrd
   obtain ⟨b44, o44, a, b, c, d, hA44, hD44, hx0, hx1, hx2, hx3, hd0, hd1, hd2, hd3, hdrop⟩ := k_at4 hn44 (k := 4 * k) (by omega)
   have hA4 : A44.map (fun a => a.add (4 * k * 1)) = some ⟨b44, o44 + 4 * k * 1, none⟩ := by rw [hA44, Option.map_some]; simp [Addr.add]
   refine yield_one (m := 1) (hm2.perm (List.perm_append_comm_assoc [_, _] [_] _)) hfh rfl ?_
   refine ri_text (lets_round _) Zk ?_
   refine Xa ?_
   refine Ze ?_

   refine t_k ?_
   refine s_begin rfl ?_
   refine wi_block ?_
   refine wi_seq ?_
   refine ri_draw (lets_round _) (by repeat (first | exact no_round | refine no_then ?_ | refine no_block ?_)) 15 [(true, 0), (true, 1), (true, 2), (true, 3), (true, 4), (true, 5), (true, 6), (true, 7), (true, 8), (true, 9), (true, 10), (true, 11), (true, 12), (true, 13), (false, 14)] Zk Zk Zk ?_
   refine Xm ?_
   refine Xv rfl (v_indexAddr (j := 0) u22 sz3 (congrArg (fun A : Option Addr => some (Value.slice A 4 4)) hA4) rfl Zo rfl) ?_
   refine Xv rfl (v_load u3 rfl rfl (at_ro (s := (wb44, notOwn ([(p6, Obj.cells [Value.pointer (some ⟨p25, 0, none⟩)].toArray 28 (0, 0)), (p25, Obj.cells ([Value.int .i64 p.first, Value.int .i64 p.days, Value.slice A1 p.lv.length c1, Value.slice A2 p.st.length c2, Value.slice none 0 0]).toArray 61 (0, 0)), (p3, Obj.cells [Value.int .i64 0].toArray 36 (0, 0)), (p2, Obj.cells [Value.pointer none].toArray 28 (0, 0))]))) Zh (fun q hq he => by have := hm44.lt hq; omega) (by rw [show o44 + 4 * k * 1 + 0 * 1 = o44 + (4 * k + 0) by omega]; exact hx0))) ?_
   refine Xm ?_
   refine Xv rfl (v_indexAddr (j := 1) u22 sz3 (congrArg (fun A : Option Addr => some (Value.slice A 4 4)) hA4) rfl Zo rfl) ?_
   refine Xv rfl (v_load u3 rfl rfl (at_ro (s := (wb44, notOwn ([(p6, Obj.cells [Value.pointer (some ⟨p25, 0, none⟩)].toArray 28 (0, 0)), (p25, Obj.cells ([Value.int .i64 p.first, Value.int .i64 p.days, Value.slice A1 p.lv.length c1, Value.slice A2 p.st.length c2, Value.slice none 0 0]).toArray 61 (0, 0)), (p3, Obj.cells [Value.int .i64 0].toArray 36 (0, 0)), (p2, Obj.cells [Value.pointer none].toArray 28 (0, 0))]))) Zh (fun q hq he => by have := hm44.lt hq; omega) (by rw [show o44 + 4 * k * 1 + 1 * 1 = o44 + (4 * k + 1) by omega]; exact hx1))) ?_
   refine Xm ?_
   refine Xv rfl (v_indexAddr (j := 2) u22 sz3 (congrArg (fun A : Option Addr => some (Value.slice A 4 4)) hA4) rfl Zo rfl) ?_
   refine Xv rfl (v_load u3 rfl rfl (at_ro (s := (wb44, notOwn ([(p6, Obj.cells [Value.pointer (some ⟨p25, 0, none⟩)].toArray 28 (0, 0)), (p25, Obj.cells ([Value.int .i64 p.first, Value.int .i64 p.days, Value.slice A1 p.lv.length c1, Value.slice A2 p.st.length c2, Value.slice none 0 0]).toArray 61 (0, 0)), (p3, Obj.cells [Value.int .i64 0].toArray 36 (0, 0)), (p2, Obj.cells [Value.pointer none].toArray 28 (0, 0))]))) Zh (fun q hq he => by have := hm44.lt hq; omega) (by rw [show o44 + 4 * k * 1 + 2 * 1 = o44 + (4 * k + 2) by omega]; exact hx2))) ?_
   refine Xb rfl (v_eql rfl rfl) fun b82 hb82 => ?_
   refine Xm ?_
   refine Xv rfl (v_indexAddr (j := 3) u22 sz3 (congrArg (fun A : Option Addr => some (Value.slice A 4 4)) hA4) rfl Zo rfl) ?_
   refine Xv rfl (v_load u3 rfl rfl (at_ro (s := (wb44, notOwn ([(p6, Obj.cells [Value.pointer (some ⟨p25, 0, none⟩)].toArray 28 (0, 0)), (p25, Obj.cells ([Value.int .i64 p.first, Value.int .i64 p.days, Value.slice A1 p.lv.length c1, Value.slice A2 p.st.length c2, Value.slice none 0 0]).toArray 61 (0, 0)), (p3, Obj.cells [Value.int .i64 0].toArray 36 (0, 0)), (p2, Obj.cells [Value.pointer none].toArray 28 (0, 0))]))) Zh (fun q hq he => by have := hm44.lt hq; omega) (by rw [show o44 + 4 * k * 1 + 3 * 1 = o44 + (4 * k + 3) by omega]; exact hx3))) ?_
   refine Xv rfl (v_buildL (places := [(0, 1), (1, 1), (2, 1), (3, 1)]) u85 zr85 Zk rfl rfl) ?_
   refine x_alloc rfl rfl rfl zr85 ?_
   intro p11
   refine x_store0 [] rfl rfl rfl rfl sz85 rfl rfl ?_
   refine Ze ?_
   refine ti_norm ?_
   refine wi_seq ?_
   refine wi_seq ?_
   refine ri_text (lets_round _) Zk ?_
   refine Xv rfl (v_fieldAddr (off' := 0) u85 rfl sz3 (by decide) rfl rfl) ?_
   refine Xv rfl (Vl u3 rfl) ?_
   refine Xv rfl (v_load u3 rfl rfl (at_ownL (vs := [Value.int .i64 nx]) Zh rfl)) ?_
   refine Xb rfl (v_lss rfl rfl) fun b90 hb90 => ?_
   refine Xm ?_
   refine Xi rfl rfl rfl (fun hg0 => by subst hg0; (try simp only [Qy]); exact v_fieldAddr (off' := 1) u85 rfl sz3 (by decide) rfl rfl) ?_
   refine Xi rfl rfl rfl (fun hg0 => by subst hg0; (try simp only [Qy]); exact Vl u3 rfl) ?_
   refine Xi rfl rfl rfl (fun hg0 => by subst hg0; (try simp only [Qy]); exact v_fieldAddr (off' := 0) u85 rfl sz3 (by decide) rfl rfl) ?_
   refine Xi rfl rfl rfl (fun hg0 => by subst hg0; (try simp only [Qy]); exact Vl u3 rfl) ?_
   refine Xj rfl rfl rfl (fun hg0 => by subst hg0; (try simp only [Qy]); exact v_lss rfl rfl) fun b96 hb96 => ?_
   refine Xb rfl (v_or rfl rfl) fun b97 hb97 => ?_
   refine Xm ?_
   refine Xi rfl rfl rfl (fun hg0 => by subst hg0; (try simp only [Qy]); exact v_fieldAddr (off' := 1) u85 rfl sz3 (by decide) rfl rfl) ?_
   refine Xi rfl rfl rfl (fun hg0 => by subst hg0; (try simp only [Qy]); exact Vl u3 rfl) ?_
   refine Xi rfl rfl rfl (fun hg0 => by subst hg0; (try simp only [Qy]); exact v_fieldAddr (off' := 0) u85 rfl sz3 (by decide) rfl rfl) ?_
   refine Xi rfl rfl rfl (fun hg0 => by subst hg0; (try simp only [Qy]); exact Vl u3 rfl) ?_
   refine Xi rfl rfl rfl (fun hg0 => by subst hg0; (try simp only [Qy]); have g1 : ¬a < nx ∧ ¬b < a := (by have h9 := hb97.symm; rw [Bool.or_eq_false_iff, hb90, hb96, decide_eq_false_iff_not, decide_eq_false_iff_not] at h9; exact h9); have g2 : b ≤ 9223372036854775807 := hd1.2; exact v_subi rfl rfl rfl Zo) ?_
   refine Xj rfl rfl rfl (fun hg0 => by subst hg0; (try simp only [Qy]); exact v_geq rfl rfl) fun b104 hb104 => ?_
   refine Xb rfl (v_or rfl rfl) fun b105 hb105 => ?_
   refine Xm ?_
   refine Xi rfl rfl rfl (fun hg0 => by subst hg0; (try simp only [Qy]); exact v_fieldAddr (off' := 1) u85 rfl sz3 (by decide) rfl rfl) ?_
   refine Xi rfl rfl rfl (fun hg0 => by subst hg0; (try simp only [Qy]); exact Vl u3 rfl) ?_
   refine Xj rfl rfl rfl (fun hg0 => by subst hg0; (try simp only [Qy]); exact v_geq rfl rfl) fun b109 hb109 => ?_
   refine Xb rfl (v_or rfl rfl) fun b110 hb110 => ?_
   refine Xm ?_
   refine Xg ?_
   refine Xi rfl rfl rfl (fun hg0 => by subst hg0; (try simp only [Qy]); exact v_indexAddr (j := 2) u22 sz3 (congrArg (fun A : Option Addr => some (Value.slice A 4 4)) hA4) rfl Zo rfl) ?_
   refine Xi rfl rfl rfl (fun hg0 => by subst hg0; (try simp only [Qy]); exact v_load u3 rfl rfl (at_ro (s := (wb44, notOwn ([(p6, Obj.cells [Value.pointer (some ⟨p25, 0, none⟩)].toArray 28 (0, 0)), (p25, Obj.cells ([Value.int .i64 p.first, Value.int .i64 p.days, Value.slice A1 p.lv.length c1, Value.slice A2 p.st.length c2, Value.slice none 0 0]).toArray 61 (0, 0)), (p3, Obj.cells [Value.int .i64 0].toArray 36 (0, 0)), (p2, Obj.cells [Value.pointer none].toArray 28 (0, 0))]))) Zh (fun q hq he => by have := hm44.lt hq; omega) (by rw [show o44 + 4 * k * 1 + 2 * 1 = o44 + (4 * k + 2) by omega]; exact hx2))) ?_
   refine Xj rfl rfl rfl (fun hg0 => by subst hg0; (try simp only [Qy]); exact v_lss rfl rfl) fun b115 hb115 => ?_
   refine Xb rfl (v_or rfl rfl) fun b116 hb116 => ?_
   refine Xm ?_
   refine Xg ?_
   refine Xi rfl rfl rfl (fun hg0 => by subst hg0; (try simp only [Qy]); exact v_indexAddr (j := 2) u22 sz3 (congrArg (fun A : Option Addr => some (Value.slice A 4 4)) hA4) rfl Zo rfl) ?_
   refine Xi rfl rfl rfl (fun hg0 => by subst hg0; (try simp only [Qy]); exact v_load u3 rfl rfl (at_ro (s := (wb44, notOwn ([(p6, Obj.cells [Value.pointer (some ⟨p25, 0, none⟩)].toArray 28 (0, 0)), (p25, Obj.cells ([Value.int .i64 p.first, Value.int .i64 p.days, Value.slice A1 p.lv.length c1, Value.slice A2 p.st.length c2, Value.slice none 0 0]).toArray 61 (0, 0)), (p3, Obj.cells [Value.int .i64 0].toArray 36 (0, 0)), (p2, Obj.cells [Value.pointer none].toArray 28 (0, 0))]))) Zh (fun q hq he => by have := hm44.lt hq; omega) (by rw [show o44 + 4 * k * 1 + 2 * 1 = o44 + (4 * k + 2) by omega]; exact hx2))) ?_
   refine Xj rfl rfl rfl (fun hg0 => by subst hg0; (try simp only [Qy]); exact v_gtr rfl rfl) fun b121 hb121 => ?_
   refine Xb rfl (v_or rfl rfl) fun b122 hb122 => ?_
   refine Xm ?_
   refine Xi rfl rfl rfl (fun hg0 => by subst hg0; (try simp only [Qy]); exact v_fieldAddr (off' := 3) u85 rfl sz3 (by decide) rfl rfl) ?_
   refine Xi rfl rfl rfl (fun hg0 => by subst hg0; (try simp only [Qy]); exact Vl u3 rfl) ?_
   refine x_call_ifb [] rfl rfl rfl rfl rfl Tryz.func40 Zk (fun hg => by obtain ⟨hg0, _⟩ := hg; subst hg0; (try simp only [Qy]); refine ⟨_, rfl, ?_⟩; exact fun w1 hw1 => c_isDay d w1 hd3 (hL.later (hw1.base (by simp)))) fun b126 hb126 => ?_
   refine Xj rfl rfl rfl (fun hg0 => by subst hg0; (try simp only [Qy]); exact v_not rfl) fun b127 hb127 => ?_
   refine Xb rfl (v_or rfl rfl) fun b128 hb128 => ?_
   refine Ze ?_
   refine ti_norm ?_
   refine wi_cond rfl (fun hc128 => ?_) (fun hc128 => ?_)
   ·simp only [hb128, hb127, hb126, hb122, hb121, hb116, hb115, hb110, hb109, hb105, hb104, hb97, hb96, hb90, Qz, ne_eq] at hc128
    have hN : ¬entB nx a b c d := by
     rintro ⟨q1, q2, q3, q4, q5, q6⟩
     rcases hc128 with (((((h | h) | h) | h) | h) | h) | h
     all_goals first | omega | exact h q6
    refine wi_seq ?_
    refine ri_text (lets_round _) Zk ?_
    refine x_store (cs := [Value.pointer none]) (off := 0) (e := 28) (l2 := rowO 85 R) [(p11, Obj.cells [Value.int .i64 a, Value.int .i64 b, Value.bool b82, Value.int .i64 d].toArray 85 (0, 0)), (L, _), (b3, _), (b2, _), (D, _), (p9, Obj.cells [Value.int .i64 nx].toArray 3 (0, 0)), (p6, Obj.cells [Value.pointer (some ⟨p25, 0, none⟩)].toArray 28 (0, 0)), (p25, Obj.cells ([Value.int .i64 p.first, Value.int .i64 p.days, Value.slice A1 p.lv.length c1, Value.slice A2 p.st.length c2, rowV R es.length]).toArray 61 (0, 0)), (p3, Obj.cells [Value.int .i64 0].toArray 36 (0, 0))] rfl rfl rfl rfl sz28 rfl (by show 1 ≤ 1; decide) ?_
    refine x_store (cs := [Value.int .i64 0]) (off := 0) (e := 36) (l2 := (p2, Obj.cells [Value.pointer none].toArray 28 (0, 0)) :: rowO 85 R) [(p11, Obj.cells [Value.int .i64 a, Value.int .i64 b, Value.bool b82, Value.int .i64 d].toArray 85 (0, 0)), (L, _), (b3, _), (b2, _), (D, _), (p9, Obj.cells [Value.int .i64 nx].toArray 3 (0, 0)), (p6, Obj.cells [Value.pointer (some ⟨p25, 0, none⟩)].toArray 28 (0, 0)), (p25, Obj.cells ([Value.int .i64 p.first, Value.int .i64 p.days, Value.slice A1 p.lv.length c1, Value.slice A2 p.st.length c2, rowV R es.length]).toArray 61 (0, 0))] rfl rfl rfl rfl sz36 rfl (by show 1 ≤ 1; decide) ?_
    refine Ze ?_
    refine ti_norm ?_
    refine wi_ret ?_
    refine t_ret (b_ret ?_)
    refine s_less (List.sublist_cons_self _ _) ?_
    refine s_roundR (fun w' hm => ⟨.inr (nx, es, R), rfl, ?_, hm.perm (List.perm_append_comm_assoc [_] [_, _] _)⟩)
    show opE 0 xs = none
    rw [hO, hdrop, opE, if_neg hN]; rfl
   simp only [hb128, hb127, hb126, hb122, hb121, hb116, hb115, hb110, hb109, hb105, hb104, hb97, hb96, hb90, Qz, ne_eq] at hc128
   have hY : entB nx a b c d := by
    obtain ⟨⟨⟨⟨⟨⟨h1, h2⟩, h3⟩, h4⟩, h5⟩, h6⟩, h7⟩ := hc128
    exact ⟨by omega, by omega, by omega, by omega, by omega, h7⟩
   refine wi_skip ?_
   refine ti_norm ?_
   refine wi_seq ?_
   refine ri_text (lets_round _) Zk ?_
   refine Xv rfl (v_fieldAddr (off' := 1) u85 rfl sz3 (by decide) rfl rfl) ?_
   refine Xv rfl (Vl u3 rfl) ?_
   refine Xv rfl (v_addi (c := b + 1) rfl rfl rfl (by have := hY.2.2.2.1; have := hY.2.1; have := hY.1; omega)) ?_
   refine x_store (cs := [Value.int .i64 nx]) (off := 0) (e := 3) (l2 := (p6, Obj.cells [Value.pointer (some ⟨p25, 0, none⟩)].toArray 28 (0, 0)) :: (p25, Obj.cells ([Value.int .i64 p.first, Value.int .i64 p.days, Value.slice A1 p.lv.length c1, Value.slice A2 p.st.length c2, rowV R es.length]).toArray 61 (0, 0)) :: (p3, Obj.cells [Value.int .i64 0].toArray 36 (0, 0)) :: (p2, Obj.cells [Value.pointer none].toArray 28 (0, 0)) :: rowO 85 R) [(p11, Obj.cells [Value.int .i64 a, Value.int .i64 b, Value.bool b82, Value.int .i64 d].toArray 85 (0, 0)), (L, _), (b3, _), (b2, _), (D, _)] rfl rfl rfl rfl sz3 rfl (by show 1 ≤ 1; decide) ?_
   refine Ze ?_
   refine ti_norm ?_
   refine ri_inv (lets_round _) (by repeat (first | exact no_round | refine no_then ?_ | refine no_block ?_)) ([(p11, Obj.cells [Value.int .i64 a, Value.int .i64 b, Value.bool b82, Value.int .i64 d].toArray 85 (0, 0)), (p6, Obj.cells [Value.pointer (some ⟨p25, 0, none⟩)].toArray 28 (0, 0)), (p25, Obj.cells ([Value.int .i64 p.first, Value.int .i64 p.days, Value.slice A1 p.lv.length c1, Value.slice A2 p.st.length c2, rowV R es.length]).toArray 61 (0, 0))]) 10 (.flt 0 (.flt 1 (.flt 2 (.flt 3 (.flt 4 (.flt 5 (.gr 6 (.gr 7 (.flt 8 (.flt 9 .done)) .nil) .nil))))))) (by repeat (first | exact List.nil_sublist _ | apply List.Sublist.cons_cons | apply List.Sublist.cons)) Zk Zk Zk ?_
   refine j_val rfl rfl (v_load u28 rfl rfl (at_ownL (vs := [Value.pointer (some ⟨p25, 0, none⟩)]) Zh rfl)) ?_
   refine j_val rfl rfl (v_load u28 rfl rfl (at_ownL (vs := [Value.pointer (some ⟨p25, 0, none⟩)]) Zh rfl)) ?_
   refine j_val rfl rfl (v_nilCheck rfl) ?_
   refine j_val rfl rfl (v_fieldAddr u61 rfl sz59 (by decide) rfl rfl) ?_
   refine j_val rfl rfl (v_load u59 rfl rfl (at_ownL (vs := [Value.int .i64 p.first, Value.int .i64 p.days, Value.slice A1 p.lv.length c1, Value.slice A2 p.st.length c2, rowV R es.length]) Zh rfl)) ?_
   refine j_val rfl rfl (v_load_blk u85 rfl rfl (by first | exact .head _ | exact .tail _ (.head _) | exact .tail _ (.tail _ (.head _)) | (repeat (first | exact List.Mem.head _ | apply List.Mem.tail | apply List.mem_append_right))) (by exact sz85)) ?_
   refine j_gr ?_ j_nil
   refine x_buildSliceL rfl rfl rfl u59 sz85 zr85 rfl rfl rfl ?_
   intro p138
   refine Ze ?_
   refine j_end (by repeat (first | exact List.nil_sublist _ | apply List.Sublist.cons_cons | apply List.Sublist.cons)) ?_
   refine j_gr ?_ j_nil
   refine x_append (e := 85) [(p138, Obj.cells [Value.int .i64 a, Value.int .i64 b, Value.bool b82, Value.int .i64 d].toArray 85 (0, 0)), (p11, Obj.cells [Value.int .i64 a, Value.int .i64 b, Value.bool b82, Value.int .i64 d].toArray 85 (0, 0)), (L, _), (b3, _), (b2, _), (D, _), (p9, Obj.cells [Value.int .i64 (b + 1)].toArray 3 (0, 0)), (p6, Obj.cells [Value.pointer (some ⟨p25, 0, none⟩)].toArray 28 (0, 0)), (p25, Obj.cells ([Value.int .i64 p.first, Value.int .i64 p.days, Value.slice A1 p.lv.length c1, Value.slice A2 p.st.length c2, rowV R es.length]).toArray 61 (0, 0)), (p3, Obj.cells [Value.int .i64 0].toArray 36 (0, 0)), (p2, Obj.cells [Value.pointer none].toArray 28 (0, 0))] (l2 := []) R (len := es.length) (xs := entsC es) rfl rfl rfl rfl (by simp only [List.append_nil]; rfl) hR u59 ap85 rfl rfl (m := 1) (news := entC ⟨a, b, b82, d⟩) (fun j hj => at_ownL (vs := entC ⟨a, b, b82, d⟩) (.head _) (by rw [Nat.zero_add]; exact List.getElem?_eq_getElem hj)) rfl Zx (by omega) fun R' hR' => ?_
   rw [List.append_nil]
   refine Ze ?_
   refine j_end (by repeat (first | exact List.nil_sublist _ | apply List.Sublist.cons_cons | apply List.Sublist.cons)) ?_
   refine j_val rfl rfl (v_nilCheck rfl) ?_
   refine j_val rfl rfl (v_fieldAddr u61 rfl sz59 (by decide) rfl rfl) ?_
   refine j_done ?_
   refine x_store (cs := [Value.int .i64 p.first, Value.int .i64 p.days, Value.slice A1 p.lv.length c1, Value.slice A2 p.st.length c2, rowV R es.length]) (off := 4) (e := 61) (l2 := (p3, Obj.cells [Value.int .i64 0].toArray 36 (0, 0)) :: (p2, Obj.cells [Value.pointer none].toArray 28 (0, 0)) :: rowO 85 R') [(p138, Obj.cells [Value.int .i64 a, Value.int .i64 b, Value.bool b82, Value.int .i64 d].toArray 85 (0, 0)), (p11, Obj.cells [Value.int .i64 a, Value.int .i64 b, Value.bool b82, Value.int .i64 d].toArray 85 (0, 0)), (L, _), (b3, _), (b2, _), (D, _), (p9, Obj.cells [Value.int .i64 (b + 1)].toArray 3 (0, 0)), (p6, Obj.cells [Value.pointer (some ⟨p25, 0, none⟩)].toArray 28 (0, 0))] rfl rfl rfl rfl sz59 rfl (by show 4 + 1 ≤ 5; decide) ?_
   refine Ze (b_norm ?_)
   refine s_less ((List.sublist_cons_self _ _).trans (List.sublist_cons_self _ _)) ?_
   have e1 : (es ++ [(⟨a, b, b82, d⟩ : Ent)]).length = es.length + 1 := by simp
   refine s_round (fun w' hm => ⟨.inl (b + 1, es ++ [⟨a, b, b82, d⟩], R'), rfl, ?_, ?_⟩)
   ·show opE 0 xs = (opE (b + 1) (xs.drop (4 * (k + 1)))).map ((es ++ [(⟨a, b, b82, d⟩ : Ent)]) ++ ·) ∧ (0 ≤ b + 1 ∧ b + 1 ≤ 100000) ∧ (es ++ [(⟨a, b, b82, d⟩ : Ent)]).length = k + 1 ∧ rowOK 4 R' (es ++ [(⟨a, b, b82, d⟩ : Ent)]).length (entsC (es ++ [(⟨a, b, b82, d⟩ : Ent)])) ∧ ∀ y ∈ es ++ [(⟨a, b, b82, d⟩ : Ent)], entOK y
    obtain ⟨y1, y2, y3, y4, y5, y6⟩ := hY
    refine ⟨?_, ⟨by omega, by omega⟩, by rw [e1, hlk], by rw [e1, entsC_app]; simpa [entsC] using hR', fun y hy => ?_⟩
    ·rw [hO, hdrop, opE, if_pos ⟨y1, y2, y3, y4, y5, y6⟩, show 4 * (k + 1) = 4 * k + 4 by omega, hb82, Option.map_map]
     congr 1
     funext l
     simp
    rcases List.mem_append.1 hy with hy | hy
    ·exact hok y hy
    rw [List.mem_singleton.1 hy]; exact ⟨by show 0 ≤ a; omega, y2, y4, y3, y6⟩
   have hm2 := hm.perm (List.perm_append_comm_assoc [_] [_, _] _)
   rw [← e1] at hm2
   exact hm2
  rintro e w2 ⟨h1, ⟨x, h2, h3⟩ | ⟨z, h2, h3⟩⟩
  ·exact ⟨h1, .inl ⟨x, h2, h3.perm (List.perm_append_comm_assoc [_, _] [_, _] _)⟩⟩
  exact ⟨h1, .inr ⟨z, h2, h3.perm (List.perm_append_comm_assoc [_, _] [_, _] _)⟩⟩
 ·rintro D ⟨nx, es, R⟩ ⟨hO, hnx, hlk, hR, hok⟩
  dsimp only at hO hnx hlk hR hok ⊢
  have hF : openG readQ s = some (p, es) := by
   rw [hG, hO, List.drop_eq_nil_of_le (by omega)]
   show (((opE nx []).map (es ++ ·)).map fun es => (p, es)) = _
   simp [opE]
  refine sd_block ?_
  refine sd_then ?_
  refine sd_seq ?_
  refine sd_region ?_
  refine sdl_val rfl (v_load u28 rfl rfl (at_ownL (vs := [Value.pointer (some ⟨p25, 0, none⟩)]) Zh rfl)) ?_
  refine sdl_store (cs := [Value.pointer none]) (off := 0) (e := 28) (l2 := rowO 85 R) [(D, _), (b3, _), (b2, _), (p9, Obj.cells [Value.int .i64 nx].toArray 3 (0, 0)), (p6, Obj.cells [Value.pointer (some ⟨p25, 0, none⟩)].toArray 28 (0, 0)), (p25, Obj.cells ([Value.int .i64 p.first, Value.int .i64 p.days, Value.slice A1 p.lv.length c1, Value.slice A2 p.st.length c2, rowV R es.length]).toArray 61 (0, 0)), (p3, Obj.cells [Value.int .i64 0].toArray 36 (0, 0))] rfl rfl rfl sz28 rfl (by show 1 ≤ 1; decide) ?_
  refine sdl_store (cs := [Value.int .i64 0]) (off := 0) (e := 36) (l2 := (p2, _) :: rowO 85 R) [(D, _), (b3, _), (b2, _), (p9, Obj.cells [Value.int .i64 nx].toArray 3 (0, 0)), (p6, Obj.cells [Value.pointer (some ⟨p25, 0, none⟩)].toArray 28 (0, 0)), (p25, Obj.cells ([Value.int .i64 p.first, Value.int .i64 p.days, Value.slice A1 p.lv.length c1, Value.slice A2 p.st.length c2, rowV R es.length]).toArray 61 (0, 0))] rfl rfl rfl sz36 rfl (by show 1 ≤ 1; decide) ?_
  refine sdl_end ?_
  refine sd_then ?_
  refine sd_ret ?_
  refine ret2M (m := 2) (b := p2) (b2 := p3) (v := .pointer (some ⟨p25, 0, none⟩)) (v2 := Value.int .i64 0) rfl rfl rfl u28 rfl u36 rfl (at_ownL (vs := [Value.pointer (some ⟨p25, 0, none⟩)]) Zh rfl) (at_ownL (vs := [Value.int .i64 0]) Zh rfl) (fun w' hm => ⟨_, by rw [hF]; rfl, hm.base (by simp), ?_⟩)
  rw [hF]
  obtain ⟨g1, g2, g3, g4⟩ := patRd.keep hpr (Kept.out hm Zh)
  exact ⟨p25, _, _, _, rfl, hm.apart (p25, _) Zh (w, fun _ => True) Zh trivial, fun j hj => by
   rw [hm.cell_own (b := p25) Zh j, List.getElem?_toArray]; exact List.getElem?_eq_getElem hj, g3, g4, g1, g2, ents_rd (e := 85) hR rfl (fun x hx => (hok x hx).in) hm (fun q hq => by simp [hq]) (fun q hq => hm.apart q (by simp [hq]) (w, fun _ => True) Zh trivial)⟩
 rintro D ⟨nx, es, R⟩ hJ
 dsimp only at hJ ⊢
 have hF : openG readQ s = none := by rw [hG, hJ]; rfl
 refine ret2M (m := 2) (b := p2) (b2 := p3) (v := .pointer none) (v2 := Value.int .i64 11) rfl rfl rfl u28 rfl u36 rfl (at_ownL (vs := [Value.pointer none]) Zh rfl) (at_ownL (vs := [Value.int .i64 11]) Zh rfl) (fun w' hm => ⟨_, by rw [hF]; rfl, hm.base (by simp), by rw [hF]; exact rfl⟩)
end Go.Proofs.YtaniaihoodgmpaaGreatDoor
