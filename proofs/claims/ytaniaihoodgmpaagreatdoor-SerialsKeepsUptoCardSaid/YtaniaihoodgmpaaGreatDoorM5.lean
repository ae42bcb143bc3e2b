/- Of the proofs of YtaniaihoodgmpaaGreatDoor: Wp Wq Wr Ws Wt Wu Wv Wy Wz Va Vb Vc Vd Ve Vf Ua Ub Uc Ud Ue Uf Ug Uh Ui Uj Uk Ul Um Un Uo Up Uq Ur Us, put together. -/
import Derived.Test.YtaniaihoodgmpaaGreatDoorM4
import Derived.Test.YtaniaihoodgmpaaGreatDoorM2
import Derived.RangeFuncNested
import Derived.RangeFuncBound
import Derived.RangeFuncCalls
import Derived.RangeFuncLeaves
import Derived.RangeFuncBox
import Derived.Shelf.Abstract
import Derived.Shelf.RegionOpen
import Derived.OwnWalkIn
import Derived.TacticsInMore
import Derived.LoopNIn
import Derived.LoopIn
import Derived.Test.YtaniaihoodgmpaaGreatDoorM1
import Derived.Test.YtaniaihoodgmpaaGreatDoorM3
set_option linter.unusedVariables false
set_option linter.unusedSimpArgs false
set_option maxRecDepth 100000

namespace Go.Proofs.YtaniaihoodgmpaaGreatDoor
open Go.RowKit Go.PK
set_option maxHeartbeats 1000000 in
theorem c_Held {v1 v2 v3 : Value} {bs : Nat} (p : Pat) (es : List Ent) (w : World) (hS : SerRd w bs p es v1 v2 v3) (hq : es ≠ [] → rightQ p) (hok : ∀ x ∈ es, entOK x) (hlen : es.length ≤ 100000) :
  Calls Tryz.prog 19 #[.pointer (some ⟨bs, 0, none⟩)] w fun e w' => ∃ v, e = .returned v ∧ Later w w' ∧ sliceRd tyIss (fun b => w.heap.size ≤ b) w' v (heldP p es) := by
 obtain ⟨A1, c1, rfl, hlc1, hmx1, hB1⟩ := id hS.lvs
 obtain ⟨A2, c2, rfl, hlc2, hmx2, hB2⟩ := id hS.sts
 obtain ⟨A3, c3, rfl, hlc3, hmx3, hB3⟩ := id hS.ent
 refine enter (vs := [.pointer (some ⟨bs, 0, none⟩)]) Tryz.func19 rfl Tryz.ntmps19 rfl ?_
 refine Zs (Zr ?_)
 refine Xa ?_
 refine Ze (Zt (Zs (Zs (Zr ?_))))
 refine Xm ?_
 refine Xb rfl (v_pnil (o := some ⟨bs, 0, none⟩) u28 rfl rfl) fun b9 hb9 => ?_
 refine Ze (Zt ?_)
 refine w_cond rfl (fun hc9 => ?_) (fun hc9 => ?_)
 ·simp [hb9] at hc9
 skip
 refine w_skip (Zt (Zs (Zr ?_)))
 refine Xa ?_
 refine Ze (Zt (Zs (Zs (Zr ?_))))
 refine Xm ?_
 refine Xv rfl (v_nilCheck rfl) ?_
 refine Xv rfl (v_fieldAddr (off' := 4) u61 rfl sz59 (by decide) rfl rfl) ?_
 refine Xv rfl (v_load u59 rfl rfl (at_ro (.head _) trivial (hS.cells 4 (by simp)))) ?_
 refine Xv rfl (v_len_slice u59 rfl) ?_
 refine Xm ?_
 refine Ze (Zt (w_block ?_))
 refine w_fix (rowO 48 none) (List.Sublist.refl _) (fun w0 hm0 => ?_)
 refine w_loop (σ := RowS × Nat × World) (fun x => x.2.1 ≤ es.length ∧ RowT tyIss (newD w (rowO 48 x.1)) x.2.2 x.1 (heldP p (es.take x.2.1))) (fun x => [(0, .pointer (some ⟨bs, 0, none⟩)), (3, rowV x.1 (heldP p (es.take x.2.1)).length), (13, .slice A3 es.length c3), (14, Value.int .i64 (es.length : Nat)), (15, Value.int .i64 (x.2.1 : Nat))]) (fun x => rowO 48 x.1) (fun x => (x.2.2, notOwn (rowO 48 x.1)) :: [(w, fun _ => True)]) (fun x => es.length - x.2.1) ((none, 0, w0)) (⟨Nat.zero_le _, RowT.nil⟩) (l_start Zu (fun _ h => h)) ?_
 rintro ⟨R, k, ws⟩ ⟨hk, hT⟩
 refine w_state ([(0, .pointer (some ⟨bs, 0, none⟩)), (3, rowV R (heldP p (es.take k)).length), (13, .slice A3 es.length c3), (14, Value.int .i64 (es.length : Nat)), (15, Value.int .i64 (k : Nat))]) (rowO 48 R) ((ws, notOwn (rowO 48 R)) :: [(w, fun _ => True)]) ?_
 dsimp only at hk hT
 have hhl := heldP_len (p := p) hok k
 refine Zs (Zr ?_)
 refine Xb rfl (v_lss rfl rfl) fun b16 hb16 => ?_
 refine Ze (Zt (Zs ?_))
 refine w_cond rfl (fun hc16 => ?_) (fun hc16 => ?_)
 ·simp only [hb16, Qz, ne_eq] at hc16
  have hkl : k < es.length := by omega
  obtain ⟨b0, o0, hA0, _, hc0, hin0⟩ := ent_at hS.ent hkl
  obtain ⟨e1, e2, e3, e4, _⟩ := hok _ (List.getElem_mem hkl)
  have e5 := (hok _ (List.getElem_mem hkl)).in.2.2
  have hq := hq (fun h => by rw [h] at hkl; simp at hkl)
  have hdd := hq.2.2.2
  unfold okDay at hdd
  refine w_skip (Zt (Zs (w_block (Zs (Zr ?_)))))
  refine Xv rfl (v_indexAddr u59 sz85 (congrArg (fun A => some (Value.slice A es.length c3)) hA0) rfl Zo rfl) ?_
  refine Xv rfl (v_loadN (vs := entC es[k]) u85 rfl sz85 rfl (fun j hj => at_ro (.tail _ (.head _)) trivial (hc0 j hj))) ?_
  refine x_alloc rfl rfl rfl zr85 ?_
  intro p5
  refine x_store0 [] rfl rfl rfl rfl sz85 rfl rfl ?_
  refine Ze (Zt (Zs (Zr ?_)))
  refine Xv rfl (v_fieldAddr (off' := 0) u85 rfl sz3 (by decide) rfl rfl) ?_
  refine Xv rfl (v_load u3 rfl rfl (at_ownL (vs := entC es[k]) (.head _) rfl)) ?_
  refine Xv (v := Value.int .i64 (es[k].fr + ((0 : Nat) : Int))) rfl (by rw [show es[k].fr + ((0 : Nat) : Int) = es[k].fr by omega]; exact v_assign rfl) ?_
  refine Ze (Zt (w_block ?_))
  refine w_fix ((p5, Obj.cells (entC es[k]).toArray 85 (0, 0)) :: rowO 48 R) (List.Sublist.refl _) (fun w0 hm0 => ?_)
  have hT0 := hT.keep (Kept.frz (own' := (p5, Obj.cells (entC es[k]).toArray 85 (0, 0)) :: rowO 48 R) hm0 (List.Sublist.refl _) (by simp))
  refine w_loop (σ := RowS × Nat × World) (fun x => x.2.1 ≤ (es[k].to - es[k].fr + 1).toNat ∧ (es[k].sk = true → x.2.1 = 0) ∧ RowT tyIss (newD w ((p5, Obj.cells (entC es[k]).toArray 85 (0, 0)) :: rowO 48 x.1)) x.2.2 x.1 ((heldP p (es.take k)) ++ heldJ p es[k] x.2.1)) (fun x => [(0, .pointer (some ⟨bs, 0, none⟩)), (3, rowV x.1 ((heldP p (es.take k)).length + x.2.1)), (5, .pointer (some ⟨p5, 0, none⟩)), (6, Value.int .i64 (es[k].fr + (x.2.1 : Nat))), (13, .slice A3 es.length c3), (14, Value.int .i64 (es.length : Nat)), (15, Value.int .i64 (k : Nat))]) (fun x => (p5, Obj.cells (entC es[k]).toArray 85 (0, 0)) :: rowO 48 x.1) (fun x => (x.2.2, notOwn ((p5, Obj.cells (entC es[k]).toArray 85 (0, 0)) :: rowO 48 x.1)) :: [(w, fun _ => True)]) (fun x => (es[k].to - es[k].fr + 1).toNat - x.2.1) ((R, 0, w0)) (⟨Nat.zero_le _, fun _ => rfl, by dsimp only; rw [show heldJ p es[k] 0 = [] from rfl, List.append_nil]; exact hT0⟩) (l_start Zu (fun w1 h => h.less (List.Sublist.refl _) (fun q hq => by simp at hq ⊢; rcases hq with h | h; (· exact .inl h); simp [h]))) ?_
  rintro ⟨R', j, ws'⟩ ⟨hj, hsk, hT'⟩
  refine w_state ([(0, .pointer (some ⟨bs, 0, none⟩)), (3, rowV R' ((heldP p (es.take k)).length + j)), (5, .pointer (some ⟨p5, 0, none⟩)), (6, Value.int .i64 (es[k].fr + (j : Nat))), (13, .slice A3 es.length c3), (14, Value.int .i64 (es.length : Nat)), (15, Value.int .i64 (k : Nat))]) ((p5, Obj.cells (entC es[k]).toArray 85 (0, 0)) :: rowO 48 R') ((ws', notOwn ((p5, Obj.cells (entC es[k]).toArray 85 (0, 0)) :: rowO 48 R')) :: [(w, fun _ => True)]) ?_
  dsimp only at hj hsk hT'
  have hln : ((heldP p (es.take k)) ++ heldJ p es[k] j).length = (heldP p (es.take k)).length + j := by rw [List.length_append, heldJ_len]
  refine Zs (Zs (Zr ?_))
  refine Xm ?_
  refine Xv rfl (v_fieldAddr (off' := 1) u85 rfl sz3 (by decide) rfl rfl) ?_
  refine Xv rfl (v_load u3 rfl rfl (at_ownL (vs := entC es[k]) (.head _) rfl)) ?_
  refine Xb rfl (v_leq rfl rfl) fun b24 hb24 => ?_
  refine Xm ?_
  refine Xi rfl rfl rfl (fun hg0 => by subst hg0; (try simp only [Qy]); exact v_fieldAddr (off' := 2) u85 rfl sz4 (by decide) rfl rfl) ?_
  refine Xj rfl rfl rfl (fun hg0 => by subst hg0; (try simp only [Qy]); exact v_load u4 rfl rfl (at_ownL (vs := entC es[k]) (.head _) rfl)) fun b27 hb27 => ?_
  refine Xj rfl rfl rfl (fun hg0 => by subst hg0; (try simp only [Qy]); exact v_not rfl) fun b28 hb28 => ?_
  refine Xb rfl (v_and rfl rfl) fun b29 hb29 => ?_
  refine Ze (Zt ?_)
  refine w_cond rfl (fun hc29 => ?_) (fun hc29 => ?_)
  ·have hc := hc29
   simp only [hb29, hb28, hb27, hb24, Bool.and_eq_true, Bool.not_eq_true', decide_eq_true_eq] at hc
   obtain ⟨hjt, hsf⟩ := hc
   have hdy := day_rng hq (show 0 ≤ (es[k].fr + (j : Nat)) by omega) (by omega)
   refine w_skip (Zt (Zs (w_block (Zs (Zr ?_)))))
   refine Xm ?_
   refine Xv rfl (v_nilCheck rfl) ?_
   refine Xv rfl (v_fieldAddr (off' := 0) u61 rfl sz26 (by decide) rfl rfl) ?_
   refine Xv rfl (v_loadN (vs := ([Value.int .i64 p.first, Value.int .i64 p.days, Value.slice A1 p.lv.length c1, Value.slice A2 p.st.length c2, Value.slice A3 es.length c3]).take 4) u26 rfl sz26 rfl (fun j hj => at_ro (.tail _ (.head _)) trivial (by match j, hj with | 0, _ => exact hS.cells 0 (by simp) | 1, _ => exact hS.cells 1 (by simp) | 2, _ => exact hS.cells 2 (by simp) | 3, _ => exact hS.cells 3 (by simp)))) ?_
   refine Xm ?_
   refine x_call (R := fun v wa wb => ∃ A c, v = .agg #[.slice A p.lv.length c, .int .i64 (p.first + (es[k].fr + (j : Nat)) * p.days)] ∧ sliceRd tyI (fun b => wa.heap.size ≤ b) wb (.slice A p.lv.length c) (numsP p (es[k].fr + (j : Nat)))) rfl rfl rfl Tryz.func50 Zk rfl (fun w1 hw1 => c_issue p (es[k].fr + (j : Nat)) w1 (patRd.keep (⟨hS.fst, hS.dys, hS.lvs, hS.sts⟩ : patRd (fun _ => True) w p (.slice A1 p.lv.length c1) (.slice A2 p.st.length c2)) (Kept.later (hw1.base (by simp)))) hq (by omega) (by omega)) fun v37 wa wb hwa hwl hR => ?_
   obtain ⟨A8, c8, rfl, hR9⟩ := id hR
   obtain ⟨css, hcl, hrow, hrd⟩ := hT'
   rw [hln] at hcl hrow
   refine x_alloc rfl rfl rfl zr48 ?_
   intro p7
   refine x_store0 [] rfl rfl rfl rfl sz48 rfl rfl ?_
   refine Ze (Zt (Zs (Zr ?_)))
   refine Xv rfl (v_fieldAddr (off' := 3) u85 rfl sz3 (by decide) rfl rfl) ?_
   refine Xv rfl (v_load u3 rfl rfl (at_ownL (vs := entC es[k]) (.tail _ (.head _)) rfl)) ?_
   refine Xv rfl (v_fieldAddr (off' := 1) u48 rfl sz3 (by decide) rfl rfl) ?_
   refine x_store (cs := [Value.slice A8 p.lv.length c8, Value.int .i64 (p.first + (es[k].fr + (j : Nat)) * p.days)]) (off := 1) (e := 48) (l2 := (p5, Obj.cells (entC es[k]).toArray 85 (0, 0)) :: rowO 48 R') [] rfl rfl rfl rfl sz3 rfl (by show 2 ≤ 2; decide) ?_
   refine Ze (Zt (Zr ?_))
   refine Xm ?_
   refine Xv rfl (v_load_blk (e := 48) (fz := (0, 0)) (cs := ([Value.slice A8 p.lv.length c8, Value.int .i64 es[k].day]).toArray) u48 rfl rfl (.head _) (by exact sz48)) ?_
   refine x_buildSliceL (cs := [Value.slice A8 p.lv.length c8, Value.int .i64 es[k].day]) rfl rfl rfl u40 sz48 zr48 rfl rfl rfl ?_
   intro p43
   refine x_append (e := 48) [(p43, Obj.cells ([Value.slice A8 p.lv.length c8, Value.int .i64 es[k].day]).toArray 48), (p7, Obj.cells ([Value.slice A8 p.lv.length c8, Value.int .i64 es[k].day]).toArray 48), (p5, Obj.cells (entC es[k]).toArray 85 (0, 0))] (l2 := []) R' (len := (heldP p (es.take k)).length + j) (xs := css.flatten) rfl rfl rfl rfl (by simp only [List.append_nil]; rfl) hrow u40 ap48 rfl rfl (m := 1) (news := [Value.slice A8 p.lv.length c8, Value.int .i64 es[k].day]) (fun i hi => at_ownL (vs := [Value.slice A8 p.lv.length c8, Value.int .i64 es[k].day]) (.head _) (by rw [Nat.zero_add]; exact List.getElem?_eq_getElem hi)) rfl Zx (by omega) fun R2 hR2 => ?_
   rw [List.append_nil]
   refine Xa ?_
   refine Ze (b_norm (Zt (Zr ?_)))
   refine Xm ?_
   refine Xv rfl (v_addi rfl rfl rfl Zo) ?_
   refine Xa ?_
   refine Ze ?_
   refine s_fix ((p5, Obj.cells (entC es[k]).toArray 85 (0, 0)) :: rowO 48 R2) (((List.Sublist.refl _).cons _).cons _) (fun w0 hm0 => ?_)
   have hT2 := snocN (T := tyIss) (D := newD w ((p5, Obj.cells (entC es[k]).toArray 85 (0, 0)) :: rowO 48 R2)) (ws := w0) (x := (⟨numsP p (es[k].fr + (j : Nat)), es[k].day⟩ : Iss)) hln hcl (fun j h1 h2 => tyIss.keep (hrd j h1 h2) (Kept.frz hm0 (((List.Sublist.refl _).cons _).cons _) (by simp))) hR2 ⟨_, rfl, hR9.keep (Kept.made2 (hm0.less (((List.Sublist.refl _).cons _).cons _) (fun _ h => h)) (.head _) (fun k hk p hp he => by have := hwa.lt hp; omega) (hwa.base (by simp)).size), e5⟩
   exact l_norm (x := (R', j, ws')) (μ := fun q : RowS × Nat × World => (es[k].to - es[k].fr + 1).toNat - q.2.1) (R2, j + 1, w0) ⟨by dsimp only; omega, (fun h => by rw [hsf] at h; cases h), by dsimp only; rw [heldJ_succ, ← List.append_assoc]; exact hT2⟩ (by simp only; omega) (by dsimp only; rw [show es[k].fr + ((j + 1 : Nat) : Int) = es[k].fr + (j : Nat) + 1 by omega, show (heldP p (es.take k)).length + (j + 1) = (heldP p (es.take k)).length + j + 1 by omega]; exact Zu) (fun w1 h => h.less (List.Sublist.refl _) (fun q hq => by simp at hq ⊢; rcases hq with h | h; (· exact .inl h); simp [h]))
  have hc := hc29
  simp only [hb29, hb28, hb27, hb24, Bool.and_eq_false_iff, Bool.not_eq_false', decide_eq_false_iff_not] at hc
  have hE : heldE p es[k] = heldJ p es[k] j := by
   unfold heldE
   rcases hsq : es[k].sk with _ | _
   ·rw [if_neg Bool.false_ne_true]
    rcases hc with hc | hc
    ·congr 1; omega
    rw [hsq] at hc; cases hc
   rw [if_pos rfl, hsk hsq]; rfl
  refine w_exit ?_
  refine t_exit ?_
  refine t_exit ?_
  refine b_hit ?_
  refine b_norm (Zt (Zr ?_))
  refine Xv rfl (v_addi rfl rfl rfl Zo) ?_
  refine Xm ?_
  refine Ze ?_
  refine s_fix (rowO 48 R') (List.sublist_cons_self _ _) (fun w0 hm0 => ?_)
  have hT2 := hT'.keep (Kept.frz hm0 (List.sublist_cons_self _ _) (by simp))
  have hsn := heldP_snoc (p := p) hkl
  rw [hE] at hsn
  exact l_norm (x := (R, k, ws)) (μ := fun q : RowS × Nat × World => es.length - q.2.1) (R', k + 1, w0) ⟨hkl, by dsimp only; rw [hsn]; exact hT2⟩ (by simp only; omega) (by dsimp only; rw [hsn, hln]; exact Zu) (fun w1 h => h.less (List.Sublist.refl _) (fun q hq => by simp at hq ⊢; rcases hq with h | h; (· exact .inl h); simp [h]))
 simp only [hb16, Qz, ne_eq] at hc16
 obtain rfl : k = es.length := by omega
 rw [List.take_length] at hT
 refine w_exit ?_
 refine t_exit ?_
 refine t_exit ?_
 refine b_hit ?_
 refine Zt (Zs (Zr ?_))
 refine Xm ?_
 refine Xa ?_
 refine Ze (Zt (w_ret ?_))
 refine ret1 rfl rfl (fun w' hm => ⟨_, rfl, hm.base (by simp), ?_⟩)
 rw [List.take_length]
 exact (hT.keep (Kept.frz hm (List.Sublist.refl _) (.head _))).rd (e := 48) hm (fun q hq => hq) (fun _ h => h.1) (fun q hq => hm.newer (by simp) hq) rfl
open Go.RowKit Go.Shelf Go.PK
attribute [local go_sem] Oper.semAt_some
set_option maxHeartbeats 1000000 in
theorem back_in (F : Fence) (n : Nat) (hF : F.fn 80) (hro : F.round = none) (a : Option Addr) (len cap : Nat) (w : World) :
  CallsIn F n Tryz.prog 80 #[.slice a len cap] w fun e w' => e = .returned (.func (.func 109) #[] #[.pointer (some ⟨w.heap.size, 0, none⟩)]) ∧ w' = w.alloc (.cells #[.slice a len cap] 59) := by
 refine callsIn_of_wp Tryz.func80 rfl hF ?_ hro
 simp only [Tryz.ntmps80, List.size_toArray, List.length_cons, List.length_nil, Nat.reduceAdd, Nat.reduceSub, Array.replicate_succ, Array.replicate_zero, List.push_toArray, List.append_toArray, List.nil_append, List.cons_append]
 gi_wp2
 go_ret
 exact ⟨rfl, rfl⟩
set_option maxHeartbeats 2000000 in
theorem back1_in (F : Fence) (n : Nat) (hF : F.fn 109) (hro : F.round = none) (hn : 1 ≤ n) (l Bs n₀ b off cap : Nat) (a : Option Addr) (es : List Ent) {α : Type} (f : α → Nat × Ent) (zs : List α) (hzl : zs.length = es.length) (hzf : ∀ k (h : k < zs.length) (h2 : es.length - 1 - k < es.length), f zs[k] = (es.length - 1 - k, es[es.length - 1 - k])) (hreach : es.length ≤ 100000) (hb : b < n₀) (J Jx : List α → World → Prop)
  (hY : ∀ pre x W, J pre W → pre.length < es.length → YieldAt F (n - 1) Tryz.prog l #[.int .i64 ((f x).1 : Int), .agg #[.int .i64 (f x).2.fr, .int .i64 (f x).2.to, .bool (f x).2.sk, .int .i64 (f x).2.day]] W fun e W' =>
   (e = .returned (.bool true) ∧ J (pre ++ [x]) W' ∧ Below n₀ W W') ∨ (e = .returned (.bool false) ∧ Jx (pre ++ [x]) W'))
  (W : World) (ha : 0 < es.length → a = some ⟨b, off, none⟩) (hBs : W.cell? ⟨Bs, 0, none⟩ = some (.slice a es.length cap)) (hBn : Bs < n₀)
  (hc : ∀ j (h : j < es.length), W.cell? ⟨b, off + j * 4, none⟩ = some (.int .i64 es[j].fr) ∧ W.cell? ⟨b, off + j * 4 + 1, none⟩ = some (.int .i64 es[j].to) ∧ W.cell? ⟨b, off + j * 4 + 2, none⟩ = some (.bool es[j].sk) ∧ W.cell? ⟨b, off + j * 4 + 3, none⟩ = some (.int .i64 es[j].day)) (h0 : J [] W) :
  CallsIn F n Tryz.prog 109 #[.func (.yield l) #[] #[], .pointer (some ⟨Bs, 0, none⟩)] W fun e W' => (∃ v, e = .returned v) ∧
   ((∃ ys, ys = zs ∧ J ys W') ∨ (∃ pre, (∃ k, k ≤ zs.length ∧ pre = zs.take k) ∧ Jx pre W')) := by
 refine callsIn_of_wp Tryz.func109 rfl hF ?_ hro
 simp only [Tryz.ntmps109, List.size_toArray, List.length_cons, List.length_nil, Nat.reduceAdd, Nat.reduceSub, Array.replicate_succ, Array.replicate_zero, List.push_toArray, List.append_toArray, List.nil_append, List.cons_append]
 gi_wp2
 gi_loopw [3] (fun i wr => ∃ k : Nat, k ≤ es.length ∧ i = .int .i64 ((es.length : Int) - 1 - k) ∧ J (zs.take k) wr ∧ Below n₀ W wr) (fun i _ => (intOf i + 1).toNat)
 case atStart => exact ⟨0, Nat.zero_le _, by simp, h0, Below.refl _ _⟩
 case round =>
  obtain ⟨k, hk, rfl, hJs, hnx⟩ := hrel
  have hBs' := (hnx.cell (p := ⟨Bs, 0, none⟩) hBn).trans hBs
  by_cases hlt : k < es.length
  ·obtain rfl := ha (by omega)
   obtain ⟨m, hm⟩ : ∃ m : Nat, m + k + 1 = es.length := ⟨es.length - 1 - k, by omega⟩
   have hml : m < es.length := by omega
   have hmi : (es.length : Int) - 1 - k = (m : Nat) := by omega
   obtain ⟨g1, g2, g3, g4⟩ := hc m hml
   have g1 := (hnx.cell (p := ⟨b, off + m * 4, none⟩) hb).trans g1
   have g2 := (hnx.cell (p := ⟨b, off + m * 4 + 1, none⟩) hb).trans g2
   have g3 := (hnx.cell (p := ⟨b, off + m * 4 + 2, none⟩) hb).trans g3
   have g4 := (hnx.cell (p := ⟨b, off + m * 4 + 3, none⟩) hb).trans g4
   have hkz : k < zs.length := by omega
   have hel : f zs[k] = (m, es[m]) := by
    have h := hzf k hkz (by omega)
    rw [h]
    have e : es.length - 1 - k = m := by omega
    simp only [e]
   obtain ⟨fn, tmps, assign, body, hy, hR⟩ := hY _ zs[k] wr hJs (by rw [List.length_take]; omega)
   rw [hel] at hy
   dsimp only at hy
   rw [hmi]
   gi_wp2
   refine hR.mono ?_
   rintro e W3 (⟨rfl, hJ3, hk3⟩ | ⟨rfl, hJx3⟩)
   ·gi_wp2
    go_roundw
    case rel => exact ⟨k + 1, by omega, congrArg (Value.int .i64) (by omega), by rw [List.take_succ_eq_append_getElem hkz]; exact hJ3, hnx.trans hk3⟩
    case measure => simp [intOf]
   gi_wp2
   refine bodyPost_ret (results_none rfl _ _ _) rfl ?_
   exact ⟨⟨_, rfl⟩, .inr ⟨_, ⟨k + 1, hkz, by rw [List.take_succ_eq_append_getElem hkz]⟩, hJx3⟩⟩
  obtain rfl : k = es.length := by omega
  gi_wp2
  go_end0
  exact ⟨⟨_, rfl⟩, .inl ⟨_, by rw [← hzl, List.take_length], hJs⟩⟩
theorem back_stops (F : Fence) (n : Nat) (hF : F.fn 109) (hro : F.round = none) (hn : 1 ≤ n) (Bs n₀ cap : Nat) (a : Option Addr) (es : List Ent) {α : Type} (f : α → Nat × Ent) (zs : List α) (hzl : zs.length = es.length) (hzf : ∀ k (h : k < zs.length) (h2 : es.length - 1 - k < es.length), f zs[k] = (es.length - 1 - k, es[es.length - 1 - k])) (hreach : es.length ≤ 100000) (w : World) (hBs : Bs < w.heap.size) (hn₀ : n₀ ≤ w.heap.size) (hBn : Bs < n₀)
  (hc : w.cell? ⟨Bs, 0, none⟩ = some (.slice a es.length cap)) {D : Nat → Prop} (hI : sliceRd tyEnt D w (.slice a es.length cap) es) (hlow : ∀ b, D b → b < n₀) :
  SeqStopsK F n Tryz.prog 109 #[.pointer (some ⟨Bs, 0, none⟩)] (fun x : α => #[Value.int .i64 ((f x).1 : Int), .agg #[.int .i64 (f x).2.fr, .int .i64 (f x).2.to, .bool (f x).2.sk, .int .i64 (f x).2.day]]) (Below n₀) (fun ys => ys = zs)
   (fun pre => ∃ k, k ≤ zs.length ∧ pre = zs.take k) es.length w := fun l J Jx W hW _ _ hY h0 => by
 have hc' := (hW.cell (p := ⟨Bs, 0, none⟩) hBs).trans hc
 have hW' := hW.mono hn₀
 by_cases he : 0 < es.length
 ·obtain ⟨b, off, rfl, hD, _, _⟩ := ent_at hI he
  refine back1_in F n hF hro hn l Bs n₀ b off cap _ es f zs hzl hzf hreach (hlow b hD) J Jx hY W (fun _ => rfl) hc' hBn (fun j hj => ?_) h0
  obtain ⟨b', off', e, _, hcs, _⟩ := ent_at hI hj
  injection e with e
  injection e with e1 e2
  subst e1 e2
  have hk : ∀ i (hi : i < (entC es[j]).length), W.cell? ⟨b, off + j * 4 + i, none⟩ = some (entC es[j])[i] := fun i hi => (hW'.cell (p := ⟨b, off + j * 4 + i, none⟩) (hlow b hD)).trans (hcs i hi)
  exact ⟨hk 0 (show 0 < 4 by decide), hk 1 (show 1 < 4 by decide), hk 2 (show 2 < 4 by decide), hk 3 (show 3 < 4 by decide)⟩
 exact back1_in F n hF hro hn l Bs n₀ 0 0 cap a es f zs hzl hzf hreach (by omega) J Jx hY W (fun h => absurd h he) hc' hBn (fun j hj => absurd (show 0 < es.length by omega) he) h0
def dlyE (p : Pat) (x : Ent) : Int := min (max (x.day - (p.first + x.fr * p.days)) 0) 10000
def dlyP (p : Pat) (es : List Ent) : Int × Int := match es.reverse.find? (fun x => !x.sk) with | some x => (dlyE p x, x.to) | none => (0, -1)
set_option maxHeartbeats 4000000 in
theorem c_delay {v1 v2 v3 : Value} {bs : Nat} (p : Pat) (es : List Ent) (w : World) (hS : SerRd w bs p es v1 v2 v3) (hq : es ≠ [] → rightQ p) (hok : ∀ x ∈ es, entOK x) (hlen : es.length ≤ 100000) :
  Calls Tryz.prog 49 #[.pointer (some ⟨bs, 0, none⟩)] w fun e w' => e = .returned (.tuple #[.int .i64 (dlyP p es).1, .int .i64 (dlyP p es).2]) ∧ Below w.heap.size w w' := by
 obtain ⟨A3, c3, rfl, hlc3, hmx3, hB3⟩ := id hS.ent
 refine (callsIn_wide (n := 3)).1 ?_
 have h1 : 1 ≤ 3 := by omega
 have hro : Fence.wide.round = none := rfl
 refine callsIn_of_wp_marks Tryz.func49 rfl trivial ?_ hro
 simp only [Tryz.ntmps49, List.size_toArray, List.length_cons, List.length_nil, Nat.reduceAdd, Nat.reduceSub, Array.replicate_succ, Array.replicate_zero, List.push_toArray, List.append_toArray, List.nil_append, List.cons_append]
 have hb := cell_lt (hS.cells 4 (by simp))
 dsimp only at hb
 obtain ⟨W3, hW3⟩ : ∃ W3, ((w.alloc (.cells #[.pointer (some ⟨bs, 0, none⟩)] 28)).alloc (.cells #[.int .i64 0] 3)).alloc (.cells #[.int .i64 0] 3) = W3 := ⟨_, rfl⟩
 have hl3 : Below w.heap.size w W3 := by rw [← hW3]; exact (((Below.refl _ w).alloc (Nat.le_refl _) _).alloc (by simp) _).alloc (by simp; omega) _
 have hS3 := hS.keep hl3
 have hz3 : W3.heap.size = w.heap.size + 3 := by rw [← hW3]; simp
 have hx4 : W3.cell? ⟨bs, 4, none⟩ = some (.slice A3 es.length c3) := hS3.cells 4 (by simp)
 have b1 : Boxed W3 w.heap.size 28 (.pointer (some ⟨bs, 0, none⟩)) := by rw [← hW3]; exact ((Boxed.new w 28 _).alloc _).alloc _
 have b2 : Boxed W3 (w.heap.size + 1) 3 (.int .i64 0) := by
  have h := (Boxed.new (w.alloc (.cells #[.pointer (some ⟨bs, 0, none⟩)] 28)) 3 (.int .i64 0)).alloc (.cells #[.int .i64 0] 3)
  rw [World.size_alloc, hW3] at h; exact h
 have b3 : Boxed W3 (w.heap.size + 2) 3 (.int .i64 0) := by
  have h := Boxed.new ((w.alloc (.cells #[.pointer (some ⟨bs, 0, none⟩)] 28)).alloc (.cells #[.int .i64 0] 3)) 3 (.int .i64 0)
  rw [World.size_alloc, World.size_alloc, hW3] at h; exact h
 have hb1 := b1.cell
 gi_wp2_with (rw [hW3])
 refine ⟨trivial, (back_in Fence.wide 2 trivial rfl _ _ _ _).mono ?_⟩
 rintro e w' ⟨rfl, rfl⟩
 gi_wp2
 have hl4 : Below w.heap.size w (W3.alloc (.cells #[.slice A3 es.length c3] 59)) := hl3.alloc (by omega) _
 have b4 := Boxed.new W3 59 (.slice A3 es.length c3)
 have d1 := b1.alloc (.cells #[.slice A3 es.length c3] 59)
 have d2 := b2.alloc (.cells #[.slice A3 es.length c3] 59)
 have d3 := b3.alloc (.cells #[.slice A3 es.length c3] 59)
 have hz4 : (W3.alloc (.cells #[.slice A3 es.length c3] 59)).heap.size = w.heap.size + 4 := by rw [World.size_alloc, hz3]
 have hS4 := hS.keep hl4
 rw [hz3] at b4
 generalize W3.alloc (.cells #[.slice A3 es.length c3] 59) = W4 at hl4 b4 d1 d2 d3 hz4 hS4 ⊢
 obtain ⟨zs, hzl, hzf, hzm⟩ : ∃ zs : List {x : Nat × Ent // entOK x.2 ∧ rightQ p}, zs.length = es.length ∧ (∀ k (h : k < zs.length) (h2 : es.length - 1 - k < es.length), (zs[k]).1 = (es.length - 1 - k, es[es.length - 1 - k])) ∧ zs.map (fun x => x.1.2) = es.reverse := by
  refine ⟨List.ofFn (n := es.length) (fun i => ⟨(es.length - 1 - i.1, es[es.length - 1 - i.1]'(by have := i.2; omega)), hok _ (List.getElem_mem _), hq (fun h => by have h3 := i.2; have h2 : es.length = 0 := congrArg List.length h; omega)⟩), by simp, fun k h h2 => by simp, ?_⟩
  apply List.ext_getElem (by simp)
  intro j h1 h2
  simp [List.getElem_reverse]
 refine wpIn_rangeFunc_ownH (α := {x : Nat × Ent // entOK x.2 ∧ rightQ p}) hro h1 (gf := 109) (lb := #[.pointer (some ⟨w.heap.size + 3, 0, none⟩)]) rfl trivial (enters_of Tryz.func109 Zk rfl)
  (back_stops Fence.wide 2 trivial rfl (by omega) (w.heap.size + 3) (w.heap.size + 4) c3 A3 es (fun x : {x : Nat × Ent // entOK x.2 ∧ rightQ p} => x.1) zs hzl hzf hlen W4 (by omega) (by omega) (by omega) b4.cell (hS4.ent.keep (D' := fun b => b < w.heap.size + 4) (fun k _ hlt => ⟨by rw [← hz4]; exact hlt, rfl⟩)) (fun b h => h))
  belowK_t (belowK_b (by omega)) (Below.refl _ _) (fun _ => rfl)
  (fun pre W => ((w.heap.size + 4 ≤ W.heap.size ∧ ∀ y ∈ pre, y.1.2.sk = true) ∧ Boxed W w.heap.size 28 (.pointer (some ⟨bs, 0, none⟩)) ∧ Boxed W (w.heap.size + 1) 3 (.int .i64 0) ∧ Boxed W (w.heap.size + 2) 3 (.int .i64 0)) ∧ Below w.heap.size w W)
  (fun c pre W => (c = .ret ∧ ∃ ini y, pre = ini ++ [y] ∧ (∀ z ∈ ini, z.1.2.sk = true) ∧ y.1.2.sk = false ∧ Boxed W (w.heap.size + 1) 3 (.int .i64 (dlyE p y.1.2)) ∧ Boxed W (w.heap.size + 2) 3 (.int .i64 y.1.2.to)) ∧ Below w.heap.size w W)
  (OwnFrom.and (Own.from (fun s X Y row hs hg hr => ⟨⟨Nat.le_trans hs.1.1 hg.size, hs.1.2⟩, boxed_own _ _ (fun _ : Unit => _) () X Y row hs.2.1 hg hr, boxed_own _ _ (fun _ : Unit => _) () X Y row hs.2.2.1 hg hr, boxed_own _ _ (fun _ : Unit => _) () X Y row hs.2.2.2 hg hr⟩) _) (ownFrom_below (Nat.le_refl _) (by omega)))
  (fun c => OwnFrom.and (Own.from (fun s X Y row hs hg hr => by
   obtain ⟨hc, ini, y, e1, e2, e3, e4, e5⟩ := hs
   exact ⟨hc, ini, y, e1, e2, e3, boxed_own _ _ (fun _ : Unit => _) () X Y row e4 hg hr, boxed_own _ _ (fun _ : Unit => _) () X Y row e5 hg hr⟩) _) (ownFrom_below (Nat.le_refl _) (by omega)))
  ⟨⟨⟨by omega, (fun y hy => by cases hy)⟩, d1, d2, d3⟩, hl4⟩
  (fun x a' W => ∃ Bx, w.heap.size + 4 ≤ Bx ∧ W.heap[Bx]? = some (.cells #[.int .i64 x.1.2.fr, .int .i64 x.1.2.to, .bool x.1.2.sk, .int .i64 x.1.2.day] 85 (0, 0)) ∧ a' = { tmps := #[.pointer (some ⟨bs, 0, none⟩), .pointer (some ⟨w.heap.size, 0, none⟩), .pointer (some ⟨w.heap.size + 1, 0, none⟩), .pointer (some ⟨w.heap.size + 1 + 1, 0, none⟩), undef, .pointer (some ⟨Bx, 0, none⟩), .pointer (some ⟨bs, 0, none⟩), .pointer (some ⟨bs, 0, none⟩), .pointer (some ⟨bs, 4, none⟩), .slice A3 es.length c3, .func (.func 109) #[] #[.pointer (some ⟨w.heap.size + 3, 0, none⟩)], .int .i64 (x.1.1 : Int), .agg #[.int .i64 x.1.2.fr, .int .i64 x.1.2.to, .bool x.1.2.sk, .int .i64 x.1.2.day], undef, undef, undef, undef, undef, undef, undef, undef, undef, undef, undef, undef, undef, undef, undef, undef, undef, undef], defers := [] })
  ?hAx ?assign ?body ?done ?stop
 case hAx =>
  intro x a' s X Y row hs hg hr
  obtain ⟨Bx, e1, e2, e3⟩ := hs
  refine ⟨Bx, e1, (hg.block Bx (Array.getElem?_eq_some_iff.1 e2).1 (fun e' => ?_)).trans e2, e3⟩
  obtain ⟨_, o, ho, hc⟩ := hr Bx e'.symm
  rw [e2] at ho; cases ho; cases hc
 case assign =>
  rintro l pre x W K ⟨⟨⟨i0, i1⟩, i2, i3, i4⟩, i5⟩ hK
  gi_wp2
  exact hK _ _ ((KeepsOthers.alloc _ _).from _) ((Below.refl _ W).alloc i0 _) ⟨⟨⟨by rw [World.size_alloc]; omega, i1⟩, i2.alloc _, i3.alloc _, i4.alloc _⟩, i5.alloc (by omega) _⟩ ⟨W.heap.size, i0, World.alloc_heap_new W _, rfl⟩
 case body =>
  rintro l pre ⟨⟨xi, xe⟩, hxo, hxq⟩ a' W hl ⟨r, hr⟩ ⟨⟨⟨i0, i1⟩, i2, i3, i4⟩, i5⟩ ⟨Bx, hBx, bX, rfl⟩ hlt
  dsimp only at bX ⊢
  have hsk2 : W.cell? ⟨Bx, 2, none⟩ = some (.bool xe.sk) := by simp [World.cell?, bX]
  by_cases hsk : xe.sk = true
  ·rw [hsk] at hsk2
   gi_wp2
   exact ⟨⟨Nat.le_refl _, fun _ _ _ h _ => h⟩, Below.refl _ _, ⟨⟨i0, fun y hy => by
    rcases List.mem_append.1 hy with hy | hy
    ·exact i1 y hy
    rw [List.mem_singleton.1 hy]; exact hsk⟩, i2, i3, i4⟩, i5⟩
  have hsf : xe.sk = false := by simpa using hsk
  rw [hsf] at hsk2
  have k1 : 0 ≤ xe.fr := hxo.1
  have k2 : xe.fr ≤ xe.to := hxo.2.1
  have k3 : xe.to < 100000 := hxo.2.2.1
  have k5 : okDay xe.day := hxo.2.2.2.2
  have hday := day_rng hxq k1 (show xe.fr ≤ 2000000 by omega)
  have hfst := hxq.2.2.2
  unfold okDay at hfst k5
  have hSW := hS.keep i5
  have hM0 : Mem W [(Bx, Obj.cells (entC xe).toArray 85 (0, 0)), (w.heap.size + 1, Obj.cells [Value.int .i64 0].toArray 3 (0, 0)), (w.heap.size + 2, Obj.cells [Value.int .i64 0].toArray 3 (0, 0))] [(W, notOwn [(Bx, Obj.cells (entC xe).toArray 85 (0, 0)), (w.heap.size + 1, Obj.cells [Value.int .i64 0].toArray 3 (0, 0)), (w.heap.size + 2, Obj.cells [Value.int .i64 0].toArray 3 (0, 0))])] := Mem.three bX i3 i4 (by omega) (by omega) (by omega)
  have hpat : ∀ w1, Mem w1 [(Bx, Obj.cells (entC xe).toArray 85 (0, 0)), (w.heap.size + 1, Obj.cells [Value.int .i64 0].toArray 3 (0, 0)), (w.heap.size + 2, Obj.cells [Value.int .i64 0].toArray 3 (0, 0))] [(W, notOwn [(Bx, Obj.cells (entC xe).toArray 85 (0, 0)), (w.heap.size + 1, Obj.cells [Value.int .i64 0].toArray 3 (0, 0)), (w.heap.size + 2, Obj.cells [Value.int .i64 0].toArray 3 (0, 0))])] → patRd (fun _ => True) w1 p v1 v2 := fun w1 hw1 => by
   have hk : Kept (fun _ => True) (fun _ => True) w w1 := fun k _ hlt => ⟨trivial, (hw1.ro_at _ (.head _) k (fun q hq => by simp at hq; rcases hq with rfl | rfl | rfl <;> (simp only; omega)) (by have := i5.size; dsimp only; omega)).trans (i5.block k hlt)⟩
   exact ⟨hS.fst, hS.dys, hS.lvs.keep hk, hS.sts.keep hk⟩
  gi_wp2
  refine wpIn_mono (Q := fun e a w1 => e = .normal ∧ a.defers = [] ∧ Mem w1 [(Bx, Obj.cells (entC xe).toArray 85 (0, 0)), (w.heap.size + 1, Obj.cells [Value.int .i64 (dlyE p xe)].toArray 3 (0, 0)), (w.heap.size + 2, Obj.cells [Value.int .i64 xe.to].toArray 3 (0, 0))] [(W, notOwn [(Bx, Obj.cells (entC xe).toArray 85 (0, 0)), (w.heap.size + 1, Obj.cells [Value.int .i64 0].toArray 3 (0, 0)), (w.heap.size + 2, Obj.cells [Value.int .i64 0].toArray 3 (0, 0))])]) ?reg ?_
  case reg =>
   refine rg_invR (nn := 31) (l := [(1, .pointer (some ⟨w.heap.size, 0, none⟩)), (2, .pointer (some ⟨w.heap.size + 1, 0, none⟩)), (3, .pointer (some ⟨w.heap.size + 2, 0, none⟩)), (5, .pointer (some ⟨Bx, 0, none⟩))]) (own := [(Bx, Obj.cells (entC xe).toArray 85 (0, 0)), (w.heap.size + 1, Obj.cells [Value.int .i64 0].toArray 3 (0, 0)), (w.heap.size + 2, Obj.cells [Value.int .i64 0].toArray 3 (0, 0))]) (ro := [(W, notOwn [(Bx, Obj.cells (entC xe).toArray 85 (0, 0)), (w.heap.size + 1, Obj.cells [Value.int .i64 0].toArray 3 (0, 0)), (w.heap.size + 2, Obj.cells [Value.int .i64 0].toArray 3 (0, 0))])]) ([(Bx, Obj.cells (entC xe).toArray 85 (0, 0))]) 17 (.flt 0 (.flt 1 (.flt 2 (.flt 3 (.flt 4 (.flt 5 (.flt 6 (.flt 7 (.flt 13 (.flt 14 (.gr 8 (.flt 9 (.flt 10 (.flt 11 (.flt 12 (.gr 15 (.gr 16 .done .nil) .nil))))) .nil))))))))))) ((List.nil_sublist _).cons_cons _) (fun h => by obtain ⟨_, _, h, _⟩ := h; cases h) Zk Zk Zk (by exact ((((FH.none (n := 31) rfl rfl).add rfl).add rfl).add rfl).add rfl) hM0 ?_
   refine j_val rfl rfl (v_fieldAddr (off' := 3) u85 rfl sz3 (by decide) rfl rfl) ?_
   refine j_val rfl rfl (v_load u3 rfl rfl (at_ownL (vs := entC xe) (.head _) rfl)) ?_
   refine j_val rfl rfl (v_load u28 rfl rfl (at_ro (.head _) (fun q hq => by simp at hq; rcases hq with rfl | rfl | rfl <;> (simp only; omega)) i2.cell)) ?_
   refine j_val rfl rfl (v_nilCheck rfl) ?_
   refine j_val rfl rfl (v_fieldAddr u61 rfl sz26 (by decide) rfl rfl) ?_
   refine j_val rfl rfl (v_loadN (vs := ([Value.int .i64 p.first, Value.int .i64 p.days, v1, v2, .slice A3 es.length c3]).take 4) u26 rfl sz26 rfl (fun j hj => at_ro (.head _) (fun q hq => by simp at hq; rcases hq with rfl | rfl | rfl <;> (simp only; omega)) (by match j, hj with | 0, _ => exact hSW.cells 0 (by simp) | 1, _ => exact hSW.cells 1 (by simp) | 2, _ => exact hSW.cells 2 (by simp) | 3, _ => exact hSW.cells 3 (by simp)))) ?_
   refine j_val rfl rfl (v_fieldAddr (off' := 0) u85 rfl sz3 (by decide) rfl rfl) ?_
   refine j_val rfl rfl (v_load u3 rfl rfl (at_ownL (vs := entC xe) (.head _) rfl)) ?_
   refine j_val rfl rfl (v_fieldAddr (off' := 1) u85 rfl sz3 (by decide) rfl rfl) ?_
   refine j_val rfl rfl (v_load u3 rfl rfl (at_ownL (vs := entC xe) (.head _) rfl)) ?_
   refine j_gr ?_ j_nil
   refine x_call (R := fun v wa wb => ∃ A c, v = .agg #[.slice A p.lv.length c, .int .i64 (p.first + xe.fr * p.days)] ∧ sliceRd tyI (fun b => wa.heap.size ≤ b) wb (.slice A p.lv.length c) (numsP p xe.fr)) rfl rfl rfl Tryz.func50 Zk rfl (fun w1 hw1 => c_issue p xe.fr w1 (hpat w1 hw1) hxq (by omega) (by omega)) fun v24 wa wb hwa hwl hR => ?_
   obtain ⟨A8, c8, rfl, hR9⟩ := id hR
   refine x_mem (own' := [(Bx, Obj.cells (entC xe).toArray 85 (0, 0)), (w.heap.size + 1, Obj.cells [Value.int .i64 0].toArray 3 (0, 0)), (w.heap.size + 2, Obj.cells [Value.int .i64 0].toArray 3 (0, 0))]) (ro' := [(W, notOwn [(Bx, Obj.cells (entC xe).toArray 85 (0, 0)), (w.heap.size + 1, Obj.cells [Value.int .i64 0].toArray 3 (0, 0)), (w.heap.size + 2, Obj.cells [Value.int .i64 0].toArray 3 (0, 0))])]) (fun _ h => h.less (List.Sublist.refl _) (fun s hs => List.mem_cons_of_mem _ hs)) ?_
   refine Ze ?_
   refine j_end ((List.nil_sublist _).cons_cons _) ?_
   refine j_val rfl rfl (v_field u48 rfl u3 rfl rfl rfl) ?_
   refine j_val rfl rfl (v_subi rfl rfl rfl Zo) ?_
   refine j_val rfl rfl (v_max rfl rfl) ?_
   refine j_val rfl rfl (v_min rfl rfl) ?_
   refine j_gr ?_ j_nil
   refine x_store (cs := [Value.int .i64 0]) (off := 0) (e := 3) (l2 := [(w.heap.size + 2, Obj.cells [Value.int .i64 0].toArray 3 (0, 0))]) [(Bx, Obj.cells (entC xe).toArray 85 (0, 0))] rfl rfl rfl rfl sz3 rfl (by show 1 ≤ 1; decide) ?_
   refine Ze ?_
   refine j_end ((List.nil_sublist _).cons_cons _) ?_
   refine j_gr ?_ j_nil
   refine x_store (cs := [Value.int .i64 0]) (off := 0) (e := 3) (l2 := []) [(Bx, Obj.cells (entC xe).toArray 85 (0, 0)), (w.heap.size + 1, Obj.cells [Value.int .i64 (dlyE p xe)].toArray 3 (0, 0))] rfl rfl rfl rfl sz3 rfl (by show 1 ≤ 1; decide) ?_
   refine Ze ?_
   refine j_end ((List.nil_sublist _).cons_cons _) ?_
   refine j_done ?_
   refine Ze ?_
   exact fun a1 w1 ha1 hm1 => ⟨rfl, ha1.df, hm1.less (List.Sublist.refl _) (fun s hs => by repeat (first | exact hs | apply List.mem_cons_of_mem))⟩
  rintro e a w1 ⟨rfl, hdf, hm1⟩
  refine (by assumption : ∀ (a : Act) (w : World), Code.wpIn (Fence.wide.inRound l) (3 - 1 - 1) Tryz.prog Code.ret _ a w → _) a w1 ?_
  obtain ⟨s1, s2, s3, s4⟩ := hm1.ro_st _ (.head _)
  dsimp only at s1 s2 s3 s4
  have hkeep : ∀ k, k ≠ Bx → k ≠ w.heap.size + 1 → k ≠ w.heap.size + 2 → k < W.heap.size → w1.heap[k]? = W.heap[k]? := fun k n1 n2 n3 hlt => hm1.ro_at _ (.head _) k (fun q hq => by simp at hq; rcases hq with rfl | rfl | rfl <;> (simp only; omega)) hlt
  have hKF : KeepsFrom W4.heap.size W w1 := ⟨s4, fun k o hB hk ho => by
   refine (hkeep k (fun e => ?_) (by omega) (by omega) (Array.getElem?_eq_some_iff.1 hk).1).trans hk
   rw [e, bX] at hk; cases hk; cases ho⟩
  have hBl : Below w.heap.size w w1 := ⟨s1.trans i5.os, s2.trans i5.tape, s3.trans i5.output, Nat.le_trans i5.size s4, fun k hk => (hkeep k (by omega) (by omega) (by omega) (by have := i5.size; omega)).trans (i5.block k hk)⟩
  have q2 : Boxed w1 (w.heap.size + 1) 3 (.int .i64 (dlyE p xe)) := hm1.own_at _ (.tail _ (.head _))
  have q3 : Boxed w1 (w.heap.size + 2) 3 (.int .i64 xe.to) := hm1.own_at _ (.tail _ (.tail _ (.head _)))
  gi_wp2
  all_goals exact ⟨hKF, ⟨rfl, pre, _, rfl, i1, hsf, q2, q3⟩, hBl⟩
 case done =>
  rintro D ys W hD rfl ⟨⟨⟨i0, i1⟩, i2, i3, i4⟩, i5⟩ hK
  have hnone : dlyP p es = (0, -1) := by
   unfold dlyP
   rw [List.find?_eq_none.2 (fun y hy => by
    rw [← hzm] at hy
    obtain ⟨z, hz, rfl⟩ := List.mem_map.1 hy
    rw [i1 z hz]; simp)]
  have c3 := i3.cell
  have f3 := i3.frozen
  have j4 := i4.other (B' := w.heap.size + 1) (by omega) (.int .i64 0)
  have j3 := i3.set (.int .i64 0)
  have c4 : (W.setCell ⟨w.heap.size + 1, 0, none⟩ (.int .i64 0)).cell? ⟨w.heap.size + 1 + 1, 0, none⟩ = some (.int .i64 0) := j4.cell
  have f4 : (W.setCell ⟨w.heap.size + 1, 0, none⟩ (.int .i64 0)).frozen? ⟨w.heap.size + 1 + 1, 0, none⟩ = false := j4.frozen
  gi_wp2
  have k4 := j4.set (.int .i64 (-1))
  have k3 := j3.other (B' := w.heap.size + 2) (by omega) (.int .i64 (-1))
  have hK1 := (KeepsOthers.setCell W ⟨w.heap.size + 1, 0, none⟩ (.int .i64 0)).same D _ hK rfl
  have hK2 := (KeepsOthers.setCell (W.setCell ⟨w.heap.size + 1, 0, none⟩ (.int .i64 0)) ⟨w.heap.size + 2, 0, none⟩ (.int .i64 (-1))).same D _ hK1 rfl
  have m3 := cell_kept k3.cell (grownBy_putObj' _ D (.deferred none)) (fun r e => by cases e; exact ⟨_, hK2, rfl⟩)
  have m4 := cell_kept k4.cell (grownBy_putObj' _ D (.deferred none)) (fun r e => by cases e; exact ⟨_, hK2, rfl⟩)
  refine ⟨by simp, .inl ⟨_, _, rfl, run_takeDeferred hK2, ?_⟩⟩
  refine ⟨.tuple #[.int .i64 0, .int .i64 (-1)], ?_, by rw [hnone], ((i5.setCell (p := ⟨w.heap.size + 1, 0, none⟩) (by show w.heap.size ≤ w.heap.size + 1; omega) _).setCell (p := ⟨w.heap.size + 2, 0, none⟩) (by show w.heap.size ≤ w.heap.size + 2; omega) _).trans (belowK_b (w := w) (Nat.le_refl _) _ D _ _ (by omega) hK2 rfl rfl)⟩
  simp [results, Tryz.f49, go_sem, m3, m4]
 case stop =>
  rintro D c pre W hD ⟨k, hk, hpk⟩ ⟨⟨rfl, ini, y, e1, e2, e3, e4, e5⟩, e6⟩ hK
  have hsome : dlyP p es = (dlyE p y.1.2, y.1.2.to) := by
   unfold dlyP
   rw [List.find?_eq_some_iff_append.2 ⟨by rw [e3]; rfl, ini.map (fun x => x.1.2), (zs.drop k).map (fun x => x.1.2), ?_, ?_⟩]
   ·have h9 : zs = ini ++ y :: zs.drop k := by
     have h8 := List.take_append_drop k zs
     rw [← hpk, e1, List.append_assoc] at h8
     exact h8.symm
    rw [← hzm]
    have h7 := congrArg (List.map (fun x : {x : Nat × Ent // entOK x.2 ∧ rightQ p} => x.1.2)) h9
    rw [List.map_append, List.map_cons] at h7
    exact h7
   intro a ha
   obtain ⟨z, hz, rfl⟩ := List.mem_map.1 ha
   rw [e2 z hz]; rfl
  gi_wp2
  have m3 := cell_kept e4.cell (grownBy_putObj' _ D (.deferred none)) (fun r e => by cases e; exact ⟨_, hK, rfl⟩)
  have m4 := cell_kept e5.cell (grownBy_putObj' _ D (.deferred none)) (fun r e => by cases e; exact ⟨_, hK, rfl⟩)
  refine ⟨by simp, .inl ⟨_, _, rfl, run_takeDeferred hK, ?_⟩⟩
  refine ⟨.tuple #[.int .i64 (dlyE p y.1.2), .int .i64 y.1.2.to], ?_, by rw [hsome], e6.trans (belowK_b (w := w) (Nat.le_refl _) W D _ _ (by omega) hK rfl rfl)⟩
  simp [results, Tryz.f49, go_sem, m3, m4]
end Go.Proofs.YtaniaihoodgmpaaGreatDoor

namespace Go.Proofs.YtaniaihoodgmpaaGreatDoor
open Go.RowKit Go.PK
def missP (p : Pat) (es : List Ent) (day : Int) : List Iss := if rightQ p then missF p (dlyP p es).1 (dlyP p es).2 day (missMu 0 es) 0 es 0 else []
theorem dlyP_rng (p : Pat) {es : List Ent} (h : ∀ x ∈ es, entOK x) : (0 ≤ (dlyP p es).1 ∧ (dlyP p es).1 ≤ 10000) ∧ (-1 ≤ (dlyP p es).2 ∧ (dlyP p es).2 < 100000) := by
 unfold dlyP
 cases hf : es.reverse.find? (fun x => !x.sk) with
 | none => exact ⟨(by dsimp only; decide), (by dsimp only; decide)⟩
 | some x =>
  have hx := List.mem_of_find?_eq_some hf
  obtain ⟨h1, h2, h3, _⟩ := h x (List.mem_reverse.1 hx)
  refine ⟨?_, ?_⟩
  ·unfold dlyE; dsimp only; omega
  dsimp only; omega
theorem ent_head {w : World} {A : Option Addr} {c : Nat} {l : List Ent} (h : sliceRd tyEnt (fun _ => True) w (.slice A l.length c) l) : ∃ b o, ∀ hl : 0 < l.length, A = some ⟨b, o, none⟩ ∧ w.cell? ⟨b, o + 0 * 4 + 0, none⟩ = some (.int .i64 (l.headD ⟨0, 0, false, 0⟩).fr) ∧ w.cell? ⟨b, o + 0 * 4 + 1, none⟩ = some (.int .i64 (l.headD ⟨0, 0, false, 0⟩).to) := by
 by_cases hl : 0 < l.length
 ·obtain ⟨b, o, hA, _, hc, _⟩ := ent_at h hl
  cases l with
  | nil => simp at hl
  | cons e r => exact ⟨b, o, fun _ => ⟨hA, hc 0 (show 0 < 4 by decide), hc 1 (show 1 < 4 by decide)⟩⟩
 exact ⟨0, 0, fun h => absurd h hl⟩
theorem missF_mono (p : Pat) (d last day : Int) : ∀ (f g : Nat) (k : Int) (l : List Ent) (n : Nat), (∀ e ∈ l, entOK e) → 0 ≤ k → missMu k l ≤ f → f ≤ g → missF p d last day g k l n = missF p d last day f k l n
 | 0, _, k, l, n, _, _, h, _ => by unfold missMu at h; omega
 | f + 1, 0, k, l, n, _, _, _, h => by omega
 | f + 1, g + 1, k, l, n, hl, h0, h1, h2 => by
  unfold missF
  by_cases hc : k < 100000 ∧ n < 1000
  ·rw [if_pos hc, if_pos hc]
   cases l with
   | nil =>
    dsimp only
    rw [missF_mono p d last day f g (k + 1) [] (n + 1) hl (by omega) (by unfold missMu at h1 ⊢; omega) (by omega)]
   | cons e r =>
    dsimp only
    obtain ⟨x1, x2, x3, _⟩ := hl e (List.mem_cons_self ..)
    split
    ·rw [missF_mono p d last day f g (e.to + 1) r n (fun y hy => hl y (List.mem_cons_of_mem _ hy)) (by omega) (by unfold missMu at h1 ⊢; rw [List.length_cons, Nat.add_mul] at h1; omega) (by omega)]
    rw [missF_mono p d last day f g (k + 1) (e :: r) (n + 1) hl (by omega) (by unfold missMu at h1 ⊢; omega) (by omega)]
  rw [if_neg hc, if_neg hc]
set_option maxHeartbeats 2000000 in
theorem c_Missing {v1 v2 v3 : Value} {bs : Nat} (p : Pat) (es : List Ent) (day : Int) (w : World) (hS : SerRd w bs p es v1 v2 v3) (hok : ∀ x ∈ es, entOK x) (hlen : es.length ≤ 100000) (hday : in64 day) (hL : LD w) :
  Calls Tryz.prog 17 #[.pointer (some ⟨bs, 0, none⟩), .int .i64 day] w fun e w' => ∃ v, e = .returned v ∧ Later w w' ∧ sliceRd tyIss (fun b => w.heap.size ≤ b) w' v (missP p es day) := by
 obtain ⟨A1, c1, rfl, hlc1, hmx1, hB1⟩ := id hS.lvs
 obtain ⟨A2, c2, rfl, hlc2, hmx2, hB2⟩ := id hS.sts
 obtain ⟨A3, c3, rfl, hlc3, hmx3, hB3⟩ := id hS.ent
 refine enter (vs := [.pointer (some ⟨bs, 0, none⟩), .int .i64 day]) Tryz.func17 rfl Tryz.ntmps17 rfl ?_
 refine Zs (Zr ?_)
 refine Xa ?_
 refine Ze (Zt (Zs (Zs (Zr ?_))))
 refine Xm ?_
 refine Xb rfl (v_pnil (o := some ⟨bs, 0, none⟩) u28 rfl rfl) fun b12 hb12 => ?_
 refine Xm ?_
 refine Xg ?_
 refine Xi rfl rfl rfl (fun hg0 => by subst hg0; (try simp only [Qy]); exact v_nilCheck rfl) ?_
 refine Xi rfl rfl rfl (fun hg0 => by subst hg0; (try simp only [Qy]); exact v_fieldAddr (off' := 0) u61 rfl sz26 (by decide) rfl rfl) ?_
 refine Xi rfl rfl rfl (fun hg0 => by subst hg0; (try simp only [Qy]); exact v_loadN (vs := ([Value.int .i64 p.first, Value.int .i64 p.days, Value.slice A1 p.lv.length c1, Value.slice A2 p.st.length c2, Value.slice A3 es.length c3]).take 4) u26 rfl sz26 rfl (fun j hj => at_ro (.head _) trivial (by match j, hj with | 0, _ => exact hS.cells 0 (by simp) | 1, _ => exact hS.cells 1 (by simp) | 2, _ => exact hS.cells 2 (by simp) | 3, _ => exact hS.cells 3 (by simp)))) ?_
 refine x_call_ifb [] rfl rfl rfl rfl rfl Tryz.func33 Zk (fun hg => by obtain ⟨hg0, _⟩ := hg; subst hg0; (try simp only [Qy]); refine ⟨_, rfl, ?_⟩; exact fun w1 hw1 => c_Right p w1 (patRd.keep (⟨hS.fst, hS.dys, hS.lvs, hS.sts⟩ : patRd (fun _ => True) w p (.slice A1 p.lv.length c1) (.slice A2 p.st.length c2)) (Kept.later (hw1.base (by simp)))) (hL.later (hw1.base (by simp)))) fun b18 hb18 => ?_
 refine Xj rfl rfl rfl (fun hg0 => by subst hg0; (try simp only [Qy]); exact v_not rfl) fun b19 hb19 => ?_
 refine Xb rfl (v_or rfl rfl) fun b20 hb20 => ?_
 refine Ze (Zt ?_)
 refine w_cond rfl (fun hc20 => ?_) (fun hc20 => ?_)
 ·have hno : ¬rightQ p := fun h => by rw [hb20, hb19, hb18, hb12, decide_eq_true h] at hc20; simp at hc20
  refine Zs (Zr ?_)
  refine Xa ?_
  refine Ze (Zt (w_ret (t_ret ?_)))
  refine ret1 rfl rfl (fun w' hm => ⟨_, rfl, hm.base (by simp), ?_⟩)
  unfold missP; rw [if_neg hno]
  exact ⟨none, 0, rfl, Nat.le_refl _, Nat.zero_le _, fun h => absurd h (by decide)⟩
 have hq : rightQ p := by
  rw [hb20, hb19, hb18, hb12] at hc20
  simpa using hc20
 obtain ⟨⟨hd0, hd1⟩, hl0, hl1⟩ := dlyP_rng p hok
 have hff := hq.2.2.2
 unfold okDay at hff
 refine w_skip (Zt (Zs (Zr ?_)))
 refine Xa ?_
 refine Ze (Zt (Zs (Zr ?_)))
 refine Xm ?_
 refine x_callv (v := .tuple #[.int .i64 (dlyP p es).1, .int .i64 (dlyP p es).2]) rfl rfl rfl Tryz.func49 Zk rfl (fun w1 hw1 => c_delay p es w1 (hS.keep (hw1.base (by simp))) (fun _ => hq) hok hlen) ?_
 refine Xm ?_
 refine Xv rfl (v_extract rfl rfl) ?_
 refine Xv rfl (v_extract rfl rfl) ?_
 refine Xa ?_
 refine Xa ?_
 refine Ze (Zt (Zs (Zr ?_)))
 refine Xm ?_
 refine Xv rfl (v_nilCheck rfl) ?_
 refine Xv rfl (v_fieldAddr (off' := 4) u61 rfl sz59 (by decide) rfl rfl) ?_
 refine Xv rfl (v_load u59 rfl rfl (at_ro (.head _) trivial (hS.cells 4 (by simp)))) ?_
 refine Xa ?_
 refine Ze (Zt (Zs (Zs (Zr ?_))))
 refine Xa ?_
 refine Ze (Zt (w_block ?_))
 refine w_fix (rowO 48 none) (List.Sublist.refl _) (fun w0 hm0 => ?_)
 refine w_loop (σ := List Iss × RowS × Int × List Ent × Option Addr × Nat × World) (fun x => (0 ≤ x.2.2.1 ∧ x.2.2.1 ≤ 100000) ∧ x.1.length ≤ 1000 ∧ (∀ e ∈ x.2.2.2.1, entOK e) ∧ sliceRd tyEnt (fun _ => True) w (.slice x.2.2.2.2.1 x.2.2.2.1.length x.2.2.2.2.2.1) x.2.2.2.1 ∧ x.1 ++ missF p (dlyP p es).1 (dlyP p es).2 day (missMu x.2.2.1 x.2.2.2.1) x.2.2.1 x.2.2.2.1 x.1.length = missP p es day ∧ RowT tyIss (newD w (rowO 48 x.2.1)) x.2.2.2.2.2.2 x.2.1 x.1) (fun x => [(0, .pointer (some ⟨bs, 0, none⟩)), (1, Value.int .i64 day), (5, rowV x.2.1 x.1.length), (6, Value.int .i64 (dlyP p es).1), (7, Value.int .i64 (dlyP p es).2), (8, .slice x.2.2.2.2.1 x.2.2.2.1.length x.2.2.2.2.2.1), (9, Value.int .i64 x.2.2.1)]) (fun x => rowO 48 x.2.1) (fun x => (x.2.2.2.2.2.2, notOwn (rowO 48 x.2.1)) :: [(w, fun _ => True)]) (fun x => missMu x.2.2.1 x.2.2.2.1) (([], none, 0, es, A3, c3, w0)) (⟨⟨Int.le_refl _, show (0 : Int) ≤ 100000 by decide⟩, show 0 ≤ 1000 by decide, hok, hS.ent, by unfold missP; rw [if_pos hq]; rfl, RowT.nil⟩) (l_start Zu (fun _ h => h)) ?_
 rintro ⟨out, R, k, l, A8, c8, ws⟩ ⟨⟨hk0, hk1⟩, hol, hle, hsl, hmf, hT⟩
 refine w_state ([(0, .pointer (some ⟨bs, 0, none⟩)), (1, Value.int .i64 day), (5, rowV R out.length), (6, Value.int .i64 (dlyP p es).1), (7, Value.int .i64 (dlyP p es).2), (8, .slice A8 l.length c8), (9, Value.int .i64 k)]) (rowO 48 R) ((ws, notOwn (rowO 48 R)) :: [(w, fun _ => True)]) ?_
 dsimp only at hk0 hk1 hol hle hsl hmf hT
 have hlc8 : l.length ≤ c8 := by obtain ⟨_, _, he9, h9, _, _⟩ := id hsl; injection he9 with _ _ e39; omega
 refine Zs (Zs (Zr ?_))
 refine Xm ?_
 refine Xb rfl (v_lss rfl rfl) fun b31 hb31 => ?_
 refine Xm ?_
 refine Xg ?_
 refine Xi rfl rfl rfl (fun hg0 => by subst hg0; (try simp only [Qy]); exact v_len_slice u40 rfl) ?_
 refine Xj rfl rfl rfl (fun hg0 => by subst hg0; (try simp only [Qy]); exact v_lss rfl rfl) fun b35 hb35 => ?_
 refine Xb rfl (v_and rfl rfl) fun b36 hb36 => ?_
 refine Ze (Zt ?_)
 refine w_cond rfl (fun hc36 => ?_) (fun hc36 => ?_)
 ·simp only [hb36, hb35, hb31, Qz, ne_eq] at hc36
  have hk2 : k < 100000 := by omega
  have hon : out.length < 1000 := by omega
  refine w_skip (Zt (Zs (w_block (Zs (Zs (Zr ?_))))))
  obtain ⟨bE, oE, hE0⟩ := ent_head hsl
  refine Xm ?_
  refine Xv rfl (v_len_slice u59 rfl) ?_
  refine Xb rfl (v_gtr rfl rfl) fun b41 hb41 => ?_
  refine Xm ?_
  refine Xg ?_
  refine Xg ?_
  refine Xi rfl rfl rfl (fun hg0 => by subst hg0; (try simp only [Qy]); have hll : 0 < l.length := (by have := of_decide_eq_true hb41.symm; omega); exact v_indexAddr (j := 0) u59 sz85 (congrArg (fun A => some (Value.slice A l.length c8)) (hE0 hll).1) rfl (hll) rfl) ?_
  refine Xi rfl rfl rfl (fun hg0 => by subst hg0; (try simp only [Qy]); exact v_fieldAddr u85 rfl sz3 (by decide) rfl rfl) ?_
  refine Xi rfl rfl rfl (fun hg0 => by subst hg0; (try simp only [Qy]); have hll : 0 < l.length := (by have := of_decide_eq_true hb41.symm; omega); exact v_load u3 rfl rfl (at_ro (.tail _ (.head _)) trivial (hE0 hll).2.1)) ?_
  refine Xj rfl rfl rfl (fun hg0 => by subst hg0; (try simp only [Qy]); exact v_geq rfl rfl) fun b48 hb48 => ?_
  refine Xb rfl (v_and rfl rfl) fun b49 hb49 => ?_
  refine Ze (Zt ?_)
  refine w_cond rfl (fun hc49 => ?_) (fun hc49 => ?_)
  ·have hc := hc49
   simp only [hb49, hb48, hb41, Bool.and_eq_true, decide_eq_true_eq] at hc
   have hll : 0 < l.length := by omega
   obtain ⟨e, r, rfl⟩ : ∃ e r, l = e :: r := by
    cases l with
    | nil => simp at hll
    | cons e r => exact ⟨e, r, rfl⟩
   have hge : k ≥ e.fr := hc.2
   obtain ⟨x1, x2, x3, x4, _⟩ := hle e (List.mem_cons_self ..)
   refine Zs (Zr ?_)
   refine Xm ?_
   refine Xv rfl (v_indexAddr (j := 0) u59 sz85 (congrArg (fun A => some (Value.slice A (e :: r).length c8)) (hE0 hll).1) rfl (hll) rfl) ?_
   refine Xv rfl (v_fieldAddr u85 rfl sz3 (by decide) rfl rfl) ?_
   refine Xv (v := Value.int .i64 e.to) rfl (v_load u3 rfl rfl (at_ro (.tail _ (.head _)) trivial (hE0 hll).2.2)) ?_
   refine Xa ?_
   refine Ze (Zt (Zs (Zr ?_)))
   refine Xm ?_
   refine Xv rfl (v_scut_from (i := 1) u59 sz85 rfl rfl (by rw [List.length_cons]; omega) hlc8) ?_
   refine Xa ?_
   refine Ze (Zt ?_)
   refine w_exit ?_
   refine t_exit ?_
   refine b_hit ?_
   refine Zt (Zr ?_)
   refine Xm ?_
   refine Xv rfl (v_addi rfl rfl rfl Zo) ?_
   refine Xa ?_
   refine Ze ?_
   have hd1 := sliceRd.drop1 hsl
   have hmf2 : missF p (dlyP p es).1 (dlyP p es).2 day (missMu k (e :: r)) k (e :: r) out.length = missF p (dlyP p es).1 (dlyP p es).2 day (missMu (e.to + 1) r) (e.to + 1) r out.length := by
    unfold missMu
    rw [missF, if_pos ⟨hk2, hon⟩]
    (try dsimp only)
    rw [if_pos hge]
    exact missF_mono _ _ _ _ _ _ _ _ _ (fun y hy => hle y (List.mem_cons_of_mem _ hy)) (by omega) (Nat.le_refl _) (by rw [List.length_cons, Nat.add_mul]; omega)
   rw [hmf2] at hmf
   exact l_norm (x := (out, R, k, e :: r, A8, c8, ws)) (μ := fun x : List Iss × RowS × Int × List Ent × Option Addr × Nat × World => missMu x.2.2.1 x.2.2.2.1) (out, R, e.to + 1, r, (if c8 = 1 then A8 else A8.map (fun a => a.add (1 * 4))), c8 - 1, ws) ⟨⟨by dsimp only; omega, by dsimp only; omega⟩, hol, fun y hy => hle y (List.mem_cons_of_mem _ hy), hd1, hmf, hT⟩ (by unfold missMu; dsimp only; rw [List.length_cons, Nat.add_mul]; omega) Zu (fun _ h => h)
  have hc := hc49
  simp only [hb49, hb48, hb41, Bool.and_eq_false_iff, decide_eq_false_iff_not] at hc
  have hne : ∀ e r, l = e :: r → ¬k ≥ e.fr := fun e r hlr hk => by
   subst hlr
   rcases hc with hc | hc
   ·rw [List.length_cons] at hc; omega
   exact hc hk
  have hdy := day_rng hq hk0 (by omega)
  have hstep : missF p (dlyP p es).1 (dlyP p es).2 day (missMu k l) k l out.length = if (p.first + k * p.days + (if k > (dlyP p es).2 then (dlyP p es).1 else 0)) > day then [] else ⟨numsP p k, (p.first + k * p.days + (if k > (dlyP p es).2 then (dlyP p es).1 else 0))⟩ :: missF p (dlyP p es).1 (dlyP p es).2 day (missMu (k + 1) l) (k + 1) l (out.length + 1) := by
   unfold missMu
   cases l with
   | nil =>
    show missF p (dlyP p es).1 (dlyP p es).2 day ((100000 - k).toNat + 0 * 200000 + 1) k [] out.length = _
    rw [missF, if_pos ⟨hk2, hon⟩]
    have e1 : (100000 - k).toNat = (100000 - (k + 1)).toNat + ([] : List Ent).length * 200000 + 1 := by simp; omega
    rw [e1]
   | cons e r =>
    show missF p (dlyP p es).1 (dlyP p es).2 day ((100000 - k).toNat + (e :: r).length * 200000 + 1) k (e :: r) out.length = _
    rw [missF, if_pos ⟨hk2, hon⟩]
    (try dsimp only)
    rw [if_neg (hne e r rfl)]
    have e1 : (100000 - k).toNat + (e :: r).length * 200000 = (100000 - (k + 1)).toNat + (e :: r).length * 200000 + 1 := by omega
    rw [e1]
  refine w_skip (Zt (Zs (Zr ?_)))
  refine Xm ?_
  refine Xv rfl (v_nilCheck rfl) ?_
  refine Xv rfl (v_fieldAddr (off' := 0) u61 rfl sz26 (by decide) rfl rfl) ?_
  refine Xv rfl (v_loadN (vs := ([Value.int .i64 p.first, Value.int .i64 p.days, Value.slice A1 p.lv.length c1, Value.slice A2 p.st.length c2, Value.slice A3 es.length c3]).take 4) u26 rfl sz26 rfl (fun j hj => at_ro (.tail _ (.head _)) trivial (by match j, hj with | 0, _ => exact hS.cells 0 (by simp) | 1, _ => exact hS.cells 1 (by simp) | 2, _ => exact hS.cells 2 (by simp) | 3, _ => exact hS.cells 3 (by simp)))) ?_
  refine Xm ?_
  refine x_call (R := fun v wa wb => ∃ A c, v = .agg #[.slice A p.lv.length c, .int .i64 (p.first + k * p.days)] ∧ sliceRd tyI (fun b => wa.heap.size ≤ b) wb (.slice A p.lv.length c) (numsP p k)) rfl rfl rfl Tryz.func50 Zk rfl (fun w1 hw1 => c_issue p k w1 (patRd.keep (⟨hS.fst, hS.dys, hS.lvs, hS.sts⟩ : patRd (fun _ => True) w p (.slice A1 p.lv.length c1) (.slice A2 p.st.length c2)) (Kept.later (hw1.base (by simp)))) hq hk0 (by omega)) fun v61 wa wb hwa hwl hR => ?_
  obtain ⟨AN, cN, rfl, hR9⟩ := id hR
  refine x_alloc rfl rfl rfl zr48 ?_
  intro p10
  refine x_store0 [] rfl rfl rfl rfl sz48 rfl rfl ?_
  refine Ze (Zt ?_)
  refine w_seq_cut (σ := Unit) (fun q => True) (fun q => [(0, .pointer (some ⟨bs, 0, none⟩)), (1, Value.int .i64 day), (5, rowV R out.length), (6, Value.int .i64 (dlyP p es).1), (7, Value.int .i64 (dlyP p es).2), (8, .slice A8 l.length c8), (9, Value.int .i64 k), (10, .pointer (some ⟨p10, 0, none⟩))]) (fun q => (p10, Obj.cells ([Value.slice AN p.lv.length cN, Value.int .i64 ((p.first + k * p.days + (if k > (dlyP p es).2 then (dlyP p es).1 else 0)))]).toArray 48 (0, 0)) :: rowO 48 R) (fun q => (wb, notOwn (rowO 48 R)) :: (ws, notOwn (rowO 48 R)) :: [(w, fun _ => True)]) ?_ ?_
  ·refine w_seq ?_
   refine Zr ?_
   refine Xm ?_
   refine Xm ?_
   refine Xb rfl (v_gtr rfl rfl) fun b64 hb64 => ?_
   refine Ze (Zt ?_)
   refine w_cond rfl (fun hc64 => ?_) (fun hc64 => ?_)
   ·simp only [hb64, Qz, ne_eq] at hc64
    have hadd : (if k > (dlyP p es).2 then (dlyP p es).1 else 0) = (dlyP p es).1 := if_pos (by omega)
    refine Zr ?_
    refine Xv rfl (v_fieldAddr (off' := 1) u48 rfl sz3 (by decide) rfl rfl) ?_
    refine Xv rfl (v_load u3 rfl rfl (at_ownL (vs := [Value.slice AN p.lv.length cN, Value.int .i64 (p.first + k * p.days)]) (.head _) rfl)) ?_
    refine Xm ?_
    refine Xv rfl (v_addi rfl rfl rfl Zo) ?_
    refine Xv rfl (v_fieldAddr (off' := 1) u48 rfl sz3 (by decide) rfl rfl) ?_
    refine x_store (cs := [Value.slice AN p.lv.length cN, Value.int .i64 (p.first + k * p.days)]) (off := 1) (e := 48) (l2 := rowO 48 R) [] rfl rfl rfl rfl sz3 rfl (by show 2 ≤ 2; decide) ?_
    refine Ze ?_
    rw [show p.first + k * p.days + (dlyP p es).1 = (p.first + k * p.days + (if k > (dlyP p es).2 then (dlyP p es).1 else 0)) from by rw [hadd]]
    exact c_norm () trivial Zu (fun _ h => h)
   simp only [hb64, Qz, ne_eq] at hc64
   have hadd : (if k > (dlyP p es).2 then (dlyP p es).1 else 0) = 0 := if_neg (by omega)
   refine w_skip ?_
   have e9 : (p10, Obj.cells (Value.agg #[Value.slice AN p.lv.length cN, Value.int .i64 (p.first + k * p.days)]).cells 48) = (p10, Obj.cells ([Value.slice AN p.lv.length cN, Value.int .i64 ((p.first + k * p.days + (if k > (dlyP p es).2 then (dlyP p es).1 else 0)))]).toArray 48 (0, 0)) := by rw [show (p.first + k * p.days + (if k > (dlyP p es).2 then (dlyP p es).1 else 0)) = p.first + k * p.days from by rw [hadd, Int.add_zero]]; rfl
   exact c_norm () trivial Zu (fun _ h => h.to (by first | rfl | (rw [show (p.first + k * p.days + (if k > (dlyP p es).2 then (dlyP p es).1 else 0)) = p.first + k * p.days from by rw [hadd, Int.add_zero]]; rfl)))
  rintro _ _
  refine Zs (Zs (Zr ?_))
  refine Xv rfl (v_fieldAddr (off' := 1) u48 rfl sz3 (by decide) rfl rfl) ?_
  refine Xv rfl (v_load u3 rfl rfl (at_ownL (vs := [Value.slice AN p.lv.length cN, Value.int .i64 ((p.first + k * p.days + (if k > (dlyP p es).2 then (dlyP p es).1 else 0)))]) (.head _) rfl)) ?_
  refine Xm ?_
  refine Xb rfl (v_gtr rfl rfl) fun b73 hb73 => ?_
  refine Ze (Zt ?_)
  refine w_cond rfl (fun hc73 => ?_) (fun hc73 => ?_)
  ·simp only [hb73, Qz, ne_eq] at hc73
   rw [if_pos (by omega)] at hstep
   rw [hstep, List.append_nil] at hmf
   subst hmf
   refine w_exit ?_
   refine t_exit ?_
   refine b_miss rfl ?_
   refine t_exit ?_
   refine t_exit ?_
   refine b_hit ?_
   refine Zt (Zs (Zr ?_))
   refine Xm ?_
   refine Xa ?_
   refine Ze (Zt (w_ret ?_))
   refine ret1 rfl rfl (fun w' hm => ⟨_, rfl, hm.base (by simp), ?_⟩)
   exact (hT.keep (Kept.frz (own' := rowO 48 R) hm (List.sublist_cons_self _ _) (.tail _ (.head _)))).rd (e := 48) hm (fun q hq => List.mem_cons_of_mem _ hq) (fun _ h => h.1) (fun q hq => hm.newer (by simp) (List.mem_cons_of_mem _ hq)) rfl
  simp only [hb73, Qz, ne_eq] at hc73
  rw [if_neg (by omega)] at hstep
  refine w_skip (Zt (Zr ?_))
  refine Xm ?_
  refine Xv rfl (v_load_blk (e := 48) (fz := (0, 0)) (cs := ([Value.slice AN p.lv.length cN, Value.int .i64 ((p.first + k * p.days + (if k > (dlyP p es).2 then (dlyP p es).1 else 0)))]).toArray) u48 rfl rfl (.head _) (by exact sz48)) ?_
  refine x_buildSliceL (cs := [Value.slice AN p.lv.length cN, Value.int .i64 ((p.first + k * p.days + (if k > (dlyP p es).2 then (dlyP p es).1 else 0)))]) rfl rfl rfl u40 sz48 zr48 rfl rfl rfl ?_
  intro p76
  obtain ⟨css, hcl, hrow, hrd⟩ := hT
  refine x_append (e := 48) [(p76, Obj.cells ([Value.slice AN p.lv.length cN, Value.int .i64 ((p.first + k * p.days + (if k > (dlyP p es).2 then (dlyP p es).1 else 0)))]).toArray 48), (p10, Obj.cells ([Value.slice AN p.lv.length cN, Value.int .i64 ((p.first + k * p.days + (if k > (dlyP p es).2 then (dlyP p es).1 else 0)))]).toArray 48)] (l2 := []) R (len := out.length) (xs := css.flatten) rfl rfl rfl rfl (by simp only [List.append_nil]; rfl) hrow u40 ap48 rfl rfl (m := 1) (news := [Value.slice AN p.lv.length cN, Value.int .i64 ((p.first + k * p.days + (if k > (dlyP p es).2 then (dlyP p es).1 else 0)))]) (fun i hi => at_ownL (vs := [Value.slice AN p.lv.length cN, Value.int .i64 ((p.first + k * p.days + (if k > (dlyP p es).2 then (dlyP p es).1 else 0)))]) (.head _) (by rw [Nat.zero_add]; exact List.getElem?_eq_getElem hi)) rfl Zx (by omega) fun R2 hR2 => ?_
  rw [List.append_nil]
  refine Xa ?_
  refine Ze (b_norm (Zt (Zr ?_)))
  refine Xm ?_
  refine Xv rfl (v_addi rfl rfl rfl Zo) ?_
  refine Xa ?_
  refine Ze ?_
  refine s_fix (rowO 48 R2) (((List.Sublist.refl _).cons _).cons _) (fun w0 hm0 => ?_)
  have hT2 := snocN (T := tyIss) (D := newD w (rowO 48 R2)) (ws := w0) (x := (⟨numsP p k, (p.first + k * p.days + (if k > (dlyP p es).2 then (dlyP p es).1 else 0))⟩ : Iss)) rfl hcl (fun j h1 h2 => tyIss.keep (hrd j h1 h2) (Kept.frz hm0 (((List.Sublist.refl _).cons _).cons _) (by simp))) hR2 ⟨_, rfl, hR9.keep (Kept.made2 (hm0.less (((List.Sublist.refl _).cons _).cons _) (fun _ h => h)) (.head _) (fun k hk p hp he => by have := hwa.lt hp; omega) (hwa.base (by simp)).size), by unfold in64; dsimp only; omega⟩
  rw [hstep] at hmf
  exact l_norm (x := (out, R, k, l, A8, c8, ws)) (μ := fun x : List Iss × RowS × Int × List Ent × Option Addr × Nat × World => missMu x.2.2.1 x.2.2.2.1) (out ++ [⟨numsP p k, (p.first + k * p.days + (if k > (dlyP p es).2 then (dlyP p es).1 else 0))⟩], R2, k + 1, l, A8, c8, w0) ⟨⟨by dsimp only; omega, by dsimp only; omega⟩, by dsimp only; rw [List.length_append, List.length_singleton]; omega, hle, hsl, by dsimp only; rw [List.length_append, List.length_singleton, List.append_assoc]; exact hmf, hT2⟩ (by unfold missMu; dsimp only; omega) (by dsimp only; rw [List.length_append, List.length_singleton]; exact Zu) (fun w1 h => h.less (List.Sublist.refl _) (fun q hq => by simp at hq ⊢; rcases hq with h | h; (· exact .inl h); simp [h]))
 simp only [hb36, hb35, hb31, Qz, ne_eq] at hc36
 have hend : missF p (dlyP p es).1 (dlyP p es).2 day (missMu k l) k l out.length = [] := by
  unfold missMu missF
  rw [if_neg (by omega)]
 rw [hend, List.append_nil] at hmf
 subst hmf
 refine w_exit ?_
 refine t_exit ?_
 refine t_exit ?_
 refine b_hit ?_
 refine Zt (Zs (Zr ?_))
 refine Xm ?_
 refine Xa ?_
 refine Ze (Zt (w_ret ?_))
 refine ret1 rfl rfl (fun w' hm => ⟨_, rfl, hm.base (by simp), ?_⟩)
 exact (hT.keep (Kept.frz hm (List.Sublist.refl _) (.head _))).rd (e := 48) hm (fun q hq => hq) (fun _ h => h.1) (fun q hq => hm.newer (by simp) hq) rfl
open Go.RowKit Go.PK
theorem c_Write {D : Nat → Prop} {v1 v2 : Value} (p : Pat) (w : World) (hp : patRd D w p v1 v2) (hL : LD w) :
  Calls Tryz.prog 54 #[.agg #[.int .i64 p.first, .int .i64 p.days, v1, v2]] w fun e w' => e = .returned (.string (writeQ p)) ∧ Later w w' := by
 obtain ⟨hp1, hp2, h1, h2⟩ := id hp
 obtain ⟨A1, c1, rfl, hlc1, hmx1, hB1⟩ := id h1
 obtain ⟨A2, c2, rfl, hlc2, hmx2, hB2⟩ := id h2
 obtain ⟨bL, oL, hL0, hLk⟩ := rd_blk h1
 obtain ⟨bS, oS, hS0, hSk⟩ := rd_blk h2
 refine enter (vs := [.agg #[.int .i64 p.first, .int .i64 p.days, .slice A1 p.lv.length c1, .slice A2 p.st.length c2]]) Tryz.func54 rfl Tryz.ntmps54 rfl ?_
 refine Zs (Zr ?_)
 refine x_box rfl rfl rfl rfl ?_
 intro p1
 refine Xa ?_
 refine Ze (Zt (Zs (Zs (Zr ?_))))
 refine Xv rfl (v_load_blk u26 rfl rfl (by first | exact .head _ | exact .tail _ (.head _) | exact .tail _ (.tail _ (.head _)) | (repeat (first | exact List.Mem.head _ | apply List.Mem.tail | apply List.mem_append_right))) (by exact sz26)) ?_
 refine x_callb rfl rfl rfl Tryz.func33 Zk rfl (fun w1 hw1 => c_Right p w1 (hp.keep (Kept.later (hw1.base (by simp)))) (hL.later (hw1.base (by simp)))) fun b6 hb6 => ?_
 refine Xb rfl (v_not rfl) fun b7 hb7 => ?_
 refine Ze (Zt ?_)
 refine w_cond rfl (fun hc7 => ?_) (fun hc7 => ?_)
 ·have hno : ¬rightQ p := fun h => by rw [hb7, hb6, decide_eq_true h] at hc7; simp at hc7
  refine Zs (Zr ?_)
  refine Xa ?_
  refine Ze (Zt (w_ret (t_ret ?_)))
  refine ret1 rfl rfl (fun w' hm => ⟨?_, hm.base (by simp)⟩)
  unfold writeQ; rw [if_neg hno]
 have hq : rightQ p := by rw [hb7, hb6] at hc7; simpa using hc7
 have q1 := hq.1.1
 have q2 := hq.1.2.1
 have q3 := hq.1.2.2.1
 have hst0 : in64 (p.st.getD 0 0) := (hSk 0 (by omega)).2
 have hsz := wrTo_sz p (rd_in h2) (rd_in h1) hp2 q3 q1
 refine w_skip (Zt (Zs ?_))
 refine rg_draw 17 [(true, 0), (true, 1), (true, 2), (true, 3), (true, 4), (true, 5), (true, 6), (true, 7), (true, 8), (true, 9), (true, 10), (true, 11), (true, 12), (true, 13), (true, 14), (true, 15), (true, 16)] Zk Zk ?_
 refine Xv rfl (v_fieldAddr (off' := 1) u26 rfl sz3 (by decide) rfl rfl) ?_
 refine Xv rfl (Vl u3 rfl) ?_
 refine x_callv rfl rfl rfl Tryz.func74 Zk rfl (fun w1 hw1 => c_Itoa p.days w1 hp2 (hL.later (hw1.base (by simp)))) ?_
 refine Xv rfl (v_sadd (s := sEvery) rfl rfl (by have ha := itoaS_size hp2; have hb0 := itoaS_size hst0; have hc0 := textR_sz p.first; simp only [ByteArray.size_append, show sEvery.size = 6 from rfl, show sFrom.size = 6 from rfl, show sColon.size = 2 from rfl]; omega)) ?_
 refine Xv rfl (v_sadd (u := sFrom) rfl rfl (by have ha := itoaS_size hp2; have hb0 := itoaS_size hst0; have hc0 := textR_sz p.first; simp only [ByteArray.size_append, show sEvery.size = 6 from rfl, show sFrom.size = 6 from rfl, show sColon.size = 2 from rfl]; omega)) ?_
 refine Xv rfl (v_fieldAddr (off' := 0) u26 rfl sz3 (by decide) rfl rfl) ?_
 refine Xv rfl (Vl u3 rfl) ?_
 refine x_callv rfl rfl rfl Tryz.func75 Zk rfl (fun w1 hw1 => c19 _ w1 hp1 (hL.later (hw1.base (by simp)))) ?_
 refine Xv rfl (v_sadd rfl rfl (by have ha := itoaS_size hp2; have hb0 := itoaS_size hst0; have hc0 := textR_sz p.first; simp only [ByteArray.size_append, show sEvery.size = 6 from rfl, show sFrom.size = 6 from rfl, show sColon.size = 2 from rfl]; omega)) ?_
 refine Xv rfl (v_sadd (u := sColon) rfl rfl (by have ha := itoaS_size hp2; have hb0 := itoaS_size hst0; have hc0 := textR_sz p.first; simp only [ByteArray.size_append, show sEvery.size = 6 from rfl, show sFrom.size = 6 from rfl, show sColon.size = 2 from rfl]; omega)) ?_
 refine Xv rfl (v_fieldAddr (off' := 3) u26 rfl sz22 (by decide) rfl rfl) ?_
 refine Xv rfl (Vl u22 rfl) ?_
 refine Xv rfl (v_indexAddr (j := 0) u22 sz3 (congrArg (fun A => some (Value.slice A p.st.length c2)) (hS0 (by omega)).1) rfl Zo rfl) ?_
 refine Xv rfl (v_load u3 rfl rfl (at_ro (.head _) trivial (by rw [Nat.mul_one]; exact (hSk (0) (by omega)).1))) ?_
 refine x_callv rfl rfl rfl Tryz.func74 Zk rfl (fun w1 hw1 => c_Itoa (p.st.getD 0 0) w1 hst0 (hL.later (hw1.base (by simp)))) ?_
 refine Xv rfl (v_sadd rfl rfl (by have ha := itoaS_size hp2; have hb0 := itoaS_size hst0; have hc0 := textR_sz p.first; simp only [ByteArray.size_append, show sEvery.size = 6 from rfl, show sFrom.size = 6 from rfl, show sColon.size = 2 from rfl]; omega)) ?_
 refine Xa ?_
 refine Ze (Zt (Zs (Zs (Zr ?_))))
 refine Xa ?_
 refine Ze (Zt (w_block ?_))
 refine w_loop (σ := Nat) (fun k => k < p.lv.length) (fun k => [(1, .pointer (some ⟨p1, 0, none⟩)), (3, Value.string (wrTo p k)), (4, Value.int .i64 ((k + 1 : Nat) : Int))]) (fun k => [(p1, Obj.cells #[Value.int .i64 p.first, Value.int .i64 p.days, Value.slice A1 p.lv.length c1, Value.slice A2 p.st.length c2] 26)]) (fun k => [(w, fun _ => True)]) (fun k => p.lv.length - k) (0) (by omega) (l_start Zu (fun _ h => h)) ?_
 rintro k hk
 refine w_state ([(1, .pointer (some ⟨p1, 0, none⟩)), (3, Value.string (wrTo p k)), (4, Value.int .i64 ((k + 1 : Nat) : Int))]) ([(p1, Obj.cells #[Value.int .i64 p.first, Value.int .i64 p.days, Value.slice A1 p.lv.length c1, Value.slice A2 p.st.length c2] 26)]) ([(w, fun _ => True)]) ?_
 refine Zs (Zs (Zr ?_))
 refine Xm ?_
 refine Xv rfl (v_fieldAddr (off' := 2) u26 rfl sz22 (by decide) rfl rfl) ?_
 refine Xv rfl (Vl u22 rfl) ?_
 refine Xv rfl (v_len_slice u22 rfl) ?_
 refine Xb rfl (v_lss rfl rfl) fun b28 hb28 => ?_
 refine Ze (Zt ?_)
 refine w_cond rfl (fun hc28 => ?_) (fun hc28 => ?_)
 ·simp only [hb28, Qz, ne_eq] at hc28
  have hkl : k + 1 < p.lv.length := by omega
  have hi1 : in64 (p.st.getD (k + 1) 0) := (hSk (k + 1) (by omega)).2
  have hi2 : in64 (p.lv.getD (k + 1) 0) := (hLk (k + 1) (by omega)).2
  have hz := hsz k (by omega)
  have ha := itoaS_size hi1
  have hb0 := itoaS_size hi2
  refine w_skip (Zt (Zs (w_block ?_)))
  refine rg_draw 18 [(true, 0), (true, 1), (true, 2), (true, 3), (true, 4), (true, 5), (true, 6), (true, 7), (true, 8), (true, 9), (true, 10), (true, 11), (true, 12), (true, 13), (true, 14), (true, 15), (true, 16), (true, 17)] Zk Zk ?_
  refine Xm ?_
  refine Xv rfl (v_fieldAddr (off' := 3) u26 rfl sz22 (by decide) rfl rfl) ?_
  refine Xv rfl (Vl u22 rfl) ?_
  refine Xm ?_
  refine Xv rfl (v_indexAddr u22 sz3 (congrArg (fun A => some (Value.slice A p.st.length c2)) (hS0 (by omega)).1) rfl Zo rfl) ?_
  refine Xv rfl (v_load u3 rfl rfl (at_ro (.head _) trivial (by rw [Nat.mul_one]; exact (hSk (k + 1) (by omega)).1))) ?_
  refine x_callv rfl rfl rfl Tryz.func74 Zk rfl (fun w1 hw1 => c_Itoa (p.st.getD (k + 1) 0) w1 hi1 (hL.later (hw1.base (by simp)))) ?_
  refine Xv rfl (v_sadd (s := sComma) rfl rfl (by rw [show sComma.size = 2 from rfl]; omega)) ?_
  refine Xv rfl (v_sadd (u := slash) rfl rfl (by simp only [ByteArray.size_append, show sComma.size = 2 from rfl, show slash.size = 1 from rfl]; omega)) ?_
  refine Xv rfl (v_fieldAddr (off' := 2) u26 rfl sz22 (by decide) rfl rfl) ?_
  refine Xv rfl (Vl u22 rfl) ?_
  refine Xm ?_
  refine Xv rfl (v_indexAddr u22 sz3 (congrArg (fun A => some (Value.slice A p.lv.length c1)) (hL0 (by omega)).1) rfl Zo rfl) ?_
  refine Xv rfl (v_load u3 rfl rfl (at_ro (.head _) trivial (by rw [Nat.mul_one]; exact (hLk (k + 1) (by omega)).1))) ?_
  refine x_callv rfl rfl rfl Tryz.func74 Zk rfl (fun w1 hw1 => c_Itoa (p.lv.getD (k + 1) 0) w1 hi2 (hL.later (hw1.base (by simp)))) ?_
  refine Xv rfl (v_sadd rfl rfl (by simp only [ByteArray.size_append, show sComma.size = 2 from rfl, show slash.size = 1 from rfl]; omega)) ?_
  refine Xv rfl (v_sadd rfl rfl (by simp only [ByteArray.size_append, show sComma.size = 2 from rfl, show slash.size = 1 from rfl]; omega)) ?_
  refine Xa ?_
  refine Ze (b_norm (Zt (Zr ?_)))
  refine Xm ?_
  refine Xv rfl (v_addi rfl rfl rfl Zo) ?_
  refine Xa ?_
  refine Ze ?_
  exact l_norm (k + 1) (show k + 1 < p.lv.length by omega) (by omega) Zu (fun _ h => h)
 simp only [hb28, Qz, ne_eq] at hc28
 have ek : k = p.lv.length - 1 := by omega
 refine w_exit ?_
 refine t_exit ?_
 refine t_exit ?_
 refine b_hit ?_
 refine Zt (Zs (Zr ?_))
 refine Xm ?_
 refine Xa ?_
 refine Ze (Zt (w_ret ?_))
 refine ret1 rfl rfl (fun w' hm => ⟨?_, hm.base (by simp)⟩)
 unfold writeQ; rw [if_pos hq, ← ek]
theorem c_rd1 {w w0 : World} {l2 : List (Nat × Obj)} {ro : List Snap} (h0 : (w0, fun _ => True) ∈ ro) (hL : LD w0) (pr pf : Nat) (x sep : ByteArray) (f : Bool) (hm : Mem w ((pr, Obj.cells [Value.string x].toArray 9 (0, 0)) :: (pf, Obj.cells [Value.bool f].toArray 4 (0, 0)) :: l2) ro) (hs : x.size ≤ 2000000000) :
  Calls Tryz.prog 66 #[.string sep, .pointer (some ⟨pr, 0, none⟩), .pointer (some ⟨pf, 0, none⟩)] w fun e w' => e = .returned (.string (cutG x sep).1) ∧ Mem w' ((pr, Obj.cells [Value.string (cutG x sep).2.1].toArray 9 (0, 0)) :: (pf, Obj.cells [Value.bool (f && (cutG x sep).2.2)].toArray 4 (0, 0)) :: l2) ro := by
 refine enter_in hm (vs := [.string sep, .pointer (some ⟨pr, 0, none⟩), .pointer (some ⟨pf, 0, none⟩)]) Tryz.func66 rfl Tryz.ntmps66 rfl ?_
 refine Zs (Zr ?_)
 refine Xa ?_
 refine Ze (Zt (Zs (Zr ?_)))
 refine Xv rfl (v_load u9 rfl rfl (at_ownL (.head _) rfl)) ?_
 refine Xm ?_
 refine x_callv (v := .tuple #[.string (cutG x sep).1, .string (cutG x sep).2.1, .bool (cutG x sep).2.2]) rfl rfl rfl Tryz.func38 Zk rfl (fun w1 hw1 => c_Cut x sep w1 hs (hL.later (hw1.base (by simp [h0])))) ?_
 refine Xm ?_
 refine Xv rfl (v_extract rfl rfl) ?_
 refine Xv rfl (v_extract rfl rfl) ?_
 refine Xv (v := Value.bool (cutG x sep).2.2) rfl (v_extract rfl rfl) ?_
 refine Xa ?_
 refine Xa ?_
 refine Xa ?_
 refine Ze (Zt (Zs (Zr ?_)))
 refine Xm ?_
 refine Xv (v := Value.bool f) rfl (v_load u4 rfl rfl (at_ownL (.tail _ (.head _)) rfl)) ?_
 refine Xm ?_
 refine x_if [] rfl rfl rfl rfl rfl (fun hg => v_move rfl) ?_
 refine Xv (v := Value.bool (f && (cutG x sep).2.2)) rfl (v_and rfl rfl) ?_
 refine x_store [] rfl rfl rfl rfl sz9 rfl (by first | decide | simp) ?_
 refine x_store [(pr, Obj.cells [Value.string (cutG x sep).2.1].toArray 9 (0, 0))] rfl rfl rfl rfl sz4 rfl (by first | decide | simp) ?_
 refine Ze (Zt (Zs (Zr ?_)))
 refine Xm ?_
 refine Xa ?_
 refine Ze (Zt (w_ret ?_))
 exact ret1 rfl rfl (fun w' hm => ⟨rfl, hm⟩)
theorem c_rd2 {w w0 : World} {l2 : List (Nat × Obj)} {ro : List Snap} (h0 : (w0, fun _ => True) ∈ ro) (hL : LD w0) (pf : Nat) (x : ByteArray) (f : Bool) (hm : Mem w ((pf, Obj.cells [Value.bool f].toArray 4 (0, 0)) :: l2) ro) (hs : x.size ≤ 2000000000) :
  Calls Tryz.prog 67 #[.string x, .pointer (some ⟨pf, 0, none⟩)] w fun e w' => ∃ n, e = .returned (.int .i64 n) ∧ (atoiB x = true → n = atoiV x) ∧ Mem w' ((pf, Obj.cells [Value.bool (f && atoiB x)].toArray 4 (0, 0)) :: l2) ro := by
 refine enter_in hm (vs := [.string x, .pointer (some ⟨pf, 0, none⟩)]) Tryz.func67 rfl Tryz.ntmps67 rfl ?_
 refine Zs (Zr ?_)
 refine Xa ?_
 refine Ze (Zt (Zs (Zr ?_)))
 refine Xm ?_
 refine x_call (R := fun v wa wb => ∃ n ev b, v = .tuple #[.int .i64 n, ev] ∧ isIface ev b ∧ (b = false → Lib.atoiAll (bl x) = .ok n) ∧ (b = true → ∀ v, Lib.atoiAll (bl x) ≠ .ok v)) rfl rfl rfl Tryz.func68 Zk rfl (fun w1 hw1 => (c_Atoi x w1 (by omega) (hL.later (hw1.base (by simp [h0])))).mono fun e w2 ⟨n, ev, b, h1, h2, h3⟩ => ⟨_, h1, h2, n, ev, b, rfl, h3⟩) fun v8 wa wb hwa hwl hR => ?_
 obtain ⟨n, ev, b0, rfl, hi, h1, h2⟩ := hR
 obtain ⟨hA, hN⟩ := atoiB_case h1 h2
 refine Xm ?_
 refine Xv rfl (v_extract rfl rfl) ?_
 refine Xv rfl (v_extract rfl rfl) ?_
 refine Xa ?_
 refine Xa ?_
 refine Ze (Zt (Zs (Zr ?_)))
 refine Xv (v := Value.bool f) rfl (v_load u4 rfl rfl (at_ownL (.head _) rfl)) ?_
 refine Xm ?_
 refine x_if [] rfl rfl rfl rfl rfl (fun hg => v_move rfl) ?_
 refine x_if [] (v := Value.bool (!b0)) rfl rfl rfl rfl rfl (fun hg => by obtain ⟨hg0, _⟩ := hg; subst hg0; exact v_ieq u112 rfl rfl hi) ?_
 refine Xv (v := Value.bool (f && !b0)) rfl (v_and rfl rfl) ?_
 refine x_store [] rfl rfl rfl rfl sz4 rfl (by first | decide | simp) ?_
 refine Ze (Zt (Zs (Zr ?_)))
 refine Xm ?_
 refine Xa ?_
 refine Ze (Zt (w_ret ?_))
 refine ret1 rfl rfl (fun w' hm => ⟨n, rfl, ?_, ?_⟩)
 ·intro hfa
  rw [hA] at hfa
  exact hN (by cases b0 <;> simp_all)
 rw [hA]; exact hm.less (List.Sublist.refl _) (fun s hs => List.mem_cons_of_mem _ hs)
open Go.RowKit Go.PK
noncomputable def rdP (s : ByteArray) : Pat := ⟨(readC (rdC3 s).1).1, atoiV (rdC2 s).1, rdL s (rdPs s).length, rdS s (rdPs s).length⟩
def rdOK (s : ByteArray) : Prop := rdF s (rdPs s).length = true ∧ s ≠ ⟨#[]⟩ ∧ writeQ (rdP s) = s
open Classical in
noncomputable def readQ (s : ByteArray) : Pat × Int := if rdOK s then (rdP s, 0) else (zeroPat, 11)
theorem rd_sz (s : ByteArray) : (rdC1 s).2.1.size ≤ s.size ∧ (rdC2 s).1.size ≤ s.size ∧ (rdC2 s).2.1.size ≤ s.size ∧ (rdC3 s).1.size ≤ s.size ∧ (rdC3 s).2.1.size ≤ s.size := by
 have a := cutG_le s sEvery
 have b := cutG_le (rdC1 s).2.1 sFrom
 have c := cutG_le (rdC2 s).2.1 sColon
 have a2 : (rdC1 s).2.1.size ≤ s.size := a.2
 have b1 : (rdC2 s).1.size ≤ (rdC1 s).2.1.size := b.1
 have b2 : (rdC2 s).2.1.size ≤ (rdC1 s).2.1.size := b.2
 have c1 : (rdC3 s).1.size ≤ (rdC2 s).2.1.size := c.1
 have c2 : (rdC3 s).2.1.size ≤ (rdC2 s).2.1.size := c.2
 omega
theorem rdF_pre {s : ByteArray} : ∀ {k : Nat}, rdF s k = true → rdF s 0 = true
 | 0, h => h
 | k + 1, h => by
  unfold rdF at h
  simp only [Bool.and_eq_true] at h
  exact rdF_pre h.1.1
theorem readC_in (s : ByteArray) : in64 (readC s).1 := by
 unfold readC
 split
 ·rename_i h
  obtain ⟨h1, h2, h3⟩ := h
  by_cases ho : okDay (dayV (yO s) (mO s) (dO s))
  ·unfold okDay at ho; unfold in64; dsimp only; omega
  unfold textR at h3
  rw [if_neg ho] at h3
  rw [← h3] at h1
  exact absurd h1 (by decide)
 unfold in64; decide
theorem pc_sz (i : Nat) (x : ByteArray) : (pcS i x).size ≤ x.size ∧ (pcL i x).size ≤ x.size + 1 := by
 have := cutG_le x slash
 unfold pcS pcL
 split
 ·omega
 exact ⟨Nat.le_refl _, by show 1 ≤ _; omega⟩
set_option maxHeartbeats 4000000 in
theorem c_Read (s : ByteArray) (w : World) (hs : s.size ≤ 2000000) (hL : LD w) :
  Calls Tryz.prog 28 #[.string s] w fun e w' => ∃ v1 v2, e = .returned (.tuple #[.agg #[.int .i64 (readQ s).1.first, .int .i64 (readQ s).1.days, v1, v2], .int .i64 (readQ s).2]) ∧ Later w w' ∧ patRd (fun b => w.heap.size ≤ b) w' (readQ s).1 v1 v2 := by
 obtain ⟨y1, y2, y3, y4, y5⟩ := rd_sz s
 have hxle : (rdPs s).length ≤ (rdC3 s).2.1.size + 1 := splitG_le (by decide)
 refine enter (vs := [.string s]) Tryz.func28 rfl Tryz.ntmps28 rfl ?_
 refine Zs (Zr ?_)
 refine x_alloc rfl rfl rfl zr26 ?_
 intro p2
 refine Xa ?_
 refine Ze (Zt (Zs (Zr ?_)))
 refine Xm ?_
 refine x_alloc rfl rfl rfl zr9 ?_
 intro p4
 refine x_alloc rfl rfl rfl zr4 ?_
 intro p5
 refine x_store [(p5, _)] rfl rfl rfl rfl sz9 rfl (by first | decide | simp) ?_
 refine x_store [] rfl rfl rfl rfl sz4 rfl (by first | decide | simp) ?_
 refine Ze (Zt (Zs (Zr ?_)))
 refine Xv rfl (v_func rfl) ?_
 refine Xa ?_
 refine Ze (Zt (Zs (Zr ?_)))
 refine Xv rfl (v_func rfl) ?_
 refine Xa ?_
 refine Ze (Zt (Zs (Zr ?_)))
 refine Xm ?_
 refine x_mem (own' := (p4, Obj.cells [Value.string s].toArray 9 (0, 0)) :: (p5, Obj.cells [Value.bool true].toArray 4 (0, 0)) :: [(p2, Obj.cells #[Value.int .i64 0, Value.int .i64 0, Value.slice none 0 0, Value.slice none 0 0] 26)]) (ro' := [(w, fun _ => True)]) (fun _ h => h.perm (List.Perm.swap _ _ _)) ?_
 refine x_turnV (fst := #[]) (cap := #[.pointer (some ⟨p4, 0, none⟩), .pointer (some ⟨p5, 0, none⟩)]) (fun _ : Unit => Value.string (rdC1 s).1) (fun _ => True) (fun _ => (p4, Obj.cells [Value.string (rdC1 s).2.1].toArray 9 (0, 0)) :: (p5, Obj.cells [Value.bool (rdC1 s).2.2].toArray 4 (0, 0)) :: [(p2, Obj.cells #[Value.int .i64 0, Value.int .i64 0, Value.slice none 0 0, Value.slice none 0 0] 26)]) rfl rfl rfl Tryz.func66 Zk rfl (fun w1 hw1 => by
  have h := c_rd1 (w0 := w) (by simp) hL p4 p5 s sEvery true hw1 (by omega)
  exact h.mono fun e w2 ⟨h1, h2⟩ => ⟨(), h1, trivial, h2⟩) ?_
 intro _ _
 refine Ze (Zt (Zs (Zr ?_)))
 refine Xm ?_
 refine Xm ?_
 refine x_turnV (fst := #[]) (cap := #[.pointer (some ⟨p4, 0, none⟩), .pointer (some ⟨p5, 0, none⟩)]) (fun _ : Unit => Value.string (rdC2 s).1) (fun _ => True) (fun _ => (p4, Obj.cells [Value.string (rdC2 s).2.1].toArray 9 (0, 0)) :: (p5, Obj.cells [Value.bool ((rdC1 s).2.2 && (rdC2 s).2.2)].toArray 4 (0, 0)) :: [(p2, Obj.cells #[Value.int .i64 0, Value.int .i64 0, Value.slice none 0 0, Value.slice none 0 0] 26)]) rfl rfl rfl Tryz.func66 Zk rfl (fun w1 hw1 => by
  have h := c_rd1 (w0 := w) (by simp) hL p4 p5 (rdC1 s).2.1 sFrom (rdC1 s).2.2 hw1 (by omega)
  exact h.mono fun e w2 ⟨h1, h2⟩ => ⟨(), h1, trivial, h2⟩) ?_
 intro _ _
 refine x_mem (own' := (p5, Obj.cells [Value.bool ((rdC1 s).2.2 && (rdC2 s).2.2)].toArray 4 (0, 0)) :: (p4, Obj.cells [Value.string (rdC2 s).2.1].toArray 9 (0, 0)) :: [(p2, Obj.cells #[Value.int .i64 0, Value.int .i64 0, Value.slice none 0 0, Value.slice none 0 0] 26)]) (ro' := [(w, fun _ => True)]) (fun _ h => h.perm (List.Perm.swap _ _ _)) ?_
 refine x_turnV (fst := #[]) (cap := #[.pointer (some ⟨p5, 0, none⟩)]) (fun n : Int => Value.int .i64 n) (fun n => atoiB (rdC2 s).1 = true → n = atoiV (rdC2 s).1) (fun _ => (p5, Obj.cells [Value.bool ((rdC1 s).2.2 && (rdC2 s).2.2 && atoiB (rdC2 s).1)].toArray 4 (0, 0)) :: (p4, Obj.cells [Value.string (rdC2 s).2.1].toArray 9 (0, 0)) :: [(p2, Obj.cells #[Value.int .i64 0, Value.int .i64 0, Value.slice none 0 0, Value.slice none 0 0] 26)]) rfl rfl rfl Tryz.func67 Zk rfl (fun w1 hw1 => by
  have h := c_rd2 (w0 := w) (by simp) hL p5 (rdC2 s).1 ((rdC1 s).2.2 && (rdC2 s).2.2) hw1 (by omega)
  exact h) ?_
 intro n1 hn1
 refine Xv (v := Value.agg #[.int .i64 0, .int .i64 n1, .slice none 0 0, .slice none 0 0]) rfl (v_buildL (places := [(0, 1), (1, 1), (2, 1), (3, 1)]) u26 zr26 Zk rfl rfl) ?_
 refine x_alloc rfl rfl rfl zr26 ?_
 intro p8
 refine x_store0 [] rfl rfl rfl rfl sz26 rfl rfl ?_
 refine Ze (Zt (Zs (Zr ?_)))
 refine Xm ?_
 refine x_mem (own' := (p4, Obj.cells [Value.string (rdC2 s).2.1].toArray 9 (0, 0)) :: (p5, Obj.cells [Value.bool ((rdC1 s).2.2 && (rdC2 s).2.2 && atoiB (rdC2 s).1)].toArray 4 (0, 0)) :: [(p8, Obj.cells [Value.int .i64 0, Value.int .i64 n1, Value.slice none 0 0, Value.slice none 0 0].toArray 26 (0, 0)), (p2, Obj.cells #[Value.int .i64 0, Value.int .i64 0, Value.slice none 0 0, Value.slice none 0 0] 26)]) (ro' := [(w, fun _ => True)]) (fun _ h => (h.perm ((List.Perm.cons _ (List.Perm.swap _ _ _)).trans ((List.Perm.swap _ _ _).trans (List.Perm.cons _ (List.Perm.swap _ _ _)))))) ?_
 refine x_turnV (fst := #[]) (cap := #[.pointer (some ⟨p4, 0, none⟩), .pointer (some ⟨p5, 0, none⟩)]) (fun _ : Unit => Value.string (rdC3 s).1) (fun _ => True) (fun _ => (p4, Obj.cells [Value.string (rdC3 s).2.1].toArray 9 (0, 0)) :: (p5, Obj.cells [Value.bool (rdF s 0)].toArray 4 (0, 0)) :: [(p8, Obj.cells [Value.int .i64 0, Value.int .i64 n1, Value.slice none 0 0, Value.slice none 0 0].toArray 26 (0, 0)), (p2, Obj.cells #[Value.int .i64 0, Value.int .i64 0, Value.slice none 0 0, Value.slice none 0 0] 26)]) rfl rfl rfl Tryz.func66 Zk rfl (fun w1 hw1 => by
  have h := c_rd1 (w0 := w) (by simp) hL p4 p5 (rdC2 s).2.1 sColon ((rdC1 s).2.2 && (rdC2 s).2.2 && atoiB (rdC2 s).1) hw1 (by omega)
  exact h.mono fun e w2 ⟨h1, h2⟩ => ⟨(), h1, trivial, h2⟩) ?_
 intro _ _
 refine x_callv (v := .tuple #[.int .i64 (readC (rdC3 s).1).1, .int .i64 (readC (rdC3 s).1).2]) rfl rfl rfl Tryz.func69 Zk rfl (fun w1 hw1 => c21 (rdC3 s).1 w1 (by unfold okS; omega) (hL.later (hw1.base (by simp)))) ?_
 refine Xm ?_
 refine Xv rfl (v_extract rfl rfl) ?_
 refine Xv rfl (v_extract rfl rfl) ?_
 refine Xv rfl (v_fieldAddr (off' := 0) u26 rfl sz3 (by decide) rfl rfl) ?_
 refine x_store (cs := [Value.int .i64 0, Value.int .i64 n1, Value.slice none 0 0, Value.slice none 0 0]) (off := 0) (e := 26) (l2 := [(p2, Obj.cells #[Value.int .i64 0, Value.int .i64 0, Value.slice none 0 0, Value.slice none 0 0] 26)]) [(p4, Obj.cells [Value.string (rdC3 s).2.1].toArray 9 (0, 0)), (p5, Obj.cells [Value.bool (rdF s 0)].toArray 4 (0, 0))] rfl rfl rfl rfl sz3 rfl (by show 1 ≤ 4; decide) ?_
 refine Ze (Zt (Zs (Zs (Zr ?_))))
 refine Xv rfl (v_load u9 rfl rfl (at_ownL (.head _) rfl)) ?_
 refine x_call (R := fun v wa wb => sliceRd tyStr (fun b => wa.heap.size ≤ b) wb v (rdPs s)) rfl rfl rfl Tryz.func70 Zk rfl (fun w1 hw1 => c_Split (rdC3 s).2.1 sComma w1 (by omega) (by decide) (hL.later (hw1.base (by simp)))) fun v31 wa31 wb31 hm31 hl31 hR31 => ?_
 obtain ⟨xA, xc, rfl, hxl, hxm, _⟩ := id hR31
 refine Xv rfl (v_len_slice u55 rfl) ?_
 refine Xm ?_
 refine Ze (Zt (w_block ?_))
 refine w_loop (σ := RowS × RowS × Nat × List Int × List Int) (fun x => x.2.2.1 ≤ (rdPs s).length ∧ rowOK 1 x.1 x.2.2.1 (x.2.2.2.1.map (Value.int .i64)) ∧ rowOK 1 x.2.1 x.2.2.1 (x.2.2.2.2.map (Value.int .i64)) ∧ (rdF s x.2.2.1 = true → x.2.2.2.1 = rdS s x.2.2.1 ∧ x.2.2.2.2 = rdL s x.2.2.1)) (fun x => [(0, Value.string s), (2, .pointer (some ⟨p2, 0, none⟩)), (4, .pointer (some ⟨p4, 0, none⟩)), (5, .pointer (some ⟨p5, 0, none⟩)), (7, .func (.func 67) #[] #[.pointer (some ⟨p5, 0, none⟩)]), (8, .pointer (some ⟨p8, 0, none⟩)), (31, Value.slice xA (rdPs s).length xc), (32, Value.int .i64 ((rdPs s).length : Nat)), (33, Value.int .i64 (x.2.2.1 : Nat))]) (fun x => (p4, Obj.cells [Value.string (rdC3 s).2.1].toArray 9 (0, 0)) :: (p5, Obj.cells [Value.bool (rdF s x.2.2.1)].toArray 4 (0, 0)) :: (p8, Obj.cells [Value.int .i64 (readC (rdC3 s).1).1, Value.int .i64 n1, rowV x.2.1 (x.2.2.1), rowV x.1 (x.2.2.1)].toArray 26 (0, 0)) :: (rowO 3 x.1 ++ (rowO 3 x.2.1 ++ [(p2, Obj.cells #[Value.int .i64 0, Value.int .i64 0, Value.slice none 0 0, Value.slice none 0 0] 26)]))) (fun x => [(wb31, notOwn [(p4, Obj.cells [Value.string (rdC3 s).2.1].toArray 9 (0, 0)), (p5, Obj.cells [Value.bool (rdF s 0)].toArray 4 (0, 0)), (p8, Obj.cells [Value.int .i64 (readC (rdC3 s).1).1, Value.int .i64 n1, Value.slice none 0 0, Value.slice none 0 0].toArray 26 (0, 0)), (p2, Obj.cells #[Value.int .i64 0, Value.int .i64 0, Value.slice none 0 0, Value.slice none 0 0] 26)]), (w, fun _ => True)]) (fun x => (rdPs s).length - x.2.2.1) ((none, none, 0, [], [])) (⟨Nat.zero_le _, rowOK_nil, rowOK_nil, fun _ => ⟨rfl, rfl⟩⟩) (l_start Zu (fun _ h => h)) ?_
 rintro ⟨R, S, k, X, Y⟩ ⟨hk, hR, hS, hXY⟩
 refine w_state ([(0, Value.string s), (2, .pointer (some ⟨p2, 0, none⟩)), (4, .pointer (some ⟨p4, 0, none⟩)), (5, .pointer (some ⟨p5, 0, none⟩)), (7, .func (.func 67) #[] #[.pointer (some ⟨p5, 0, none⟩)]), (8, .pointer (some ⟨p8, 0, none⟩)), (31, Value.slice xA (rdPs s).length xc), (32, Value.int .i64 ((rdPs s).length : Nat)), (33, Value.int .i64 (k : Nat))]) ((p4, Obj.cells [Value.string (rdC3 s).2.1].toArray 9 (0, 0)) :: (p5, Obj.cells [Value.bool (rdF s k)].toArray 4 (0, 0)) :: (p8, Obj.cells [Value.int .i64 (readC (rdC3 s).1).1, Value.int .i64 n1, rowV S (k), rowV R (k)].toArray 26 (0, 0)) :: (rowO 3 R ++ (rowO 3 S ++ [(p2, Obj.cells #[Value.int .i64 0, Value.int .i64 0, Value.slice none 0 0, Value.slice none 0 0] 26)]))) ([(wb31, notOwn [(p4, Obj.cells [Value.string (rdC3 s).2.1].toArray 9 (0, 0)), (p5, Obj.cells [Value.bool (rdF s 0)].toArray 4 (0, 0)), (p8, Obj.cells [Value.int .i64 (readC (rdC3 s).1).1, Value.int .i64 n1, Value.slice none 0 0, Value.slice none 0 0].toArray 26 (0, 0)), (p2, Obj.cells #[Value.int .i64 0, Value.int .i64 0, Value.slice none 0 0, Value.slice none 0 0] 26)]), (w, fun _ => True)]) ?_
 dsimp only at hk hR hS hXY
 refine Zs (Zr ?_)
 refine Xb rfl (v_lss rfl rfl) fun b34 hb34 => ?_
 refine Ze (Zt (Zs ?_))
 refine w_cond rfl (fun hc34 => ?_) (fun hc34 => ?_)
 ·simp only [hb34, Qz, ne_eq] at hc34
  have hkl : k < (rdPs s).length := by omega
  obtain ⟨b0, o0, hA0, hD0, hc0, hok0⟩ := s_at hR31 hkl
  have hsz := splitG_sz _ (List.getElem_mem (h := hkl))
  have hgk : ((rdPs s).getD k ⟨#[]⟩) = (rdPs s)[k] := by rw [List.getD_eq_getElem?_getD, List.getElem?_eq_getElem hkl]; rfl
  have hxz : ((rdPs s).getD k ⟨#[]⟩).size ≤ s.size := by rw [hgk]; have h9 : (rdPs s)[k].size ≤ (rdC3 s).2.1.size := hsz; omega
  obtain ⟨z1, z2⟩ := pc_sz k ((rdPs s).getD k ⟨#[]⟩)
  refine w_skip (Zt (Zs (w_block (Zs (Zr ?_)))))
  refine Xm ?_
  refine Xv rfl (v_indexAddr u55 sz9 (congrArg (fun A => some (Value.slice A (rdPs s).length xc)) hA0) rfl Zo rfl) ?_
  refine Xv (v := Value.string ((rdPs s).getD k ⟨#[]⟩)) rfl (by rw [hgk]; exact v_load u9 rfl rfl (at_ro (.head _) (fun q hq => by have := hm31.lt hq; omega) (by rw [Nat.mul_one]; exact hc0))) ?_
  refine Xa ?_
  refine Xa ?_
  refine Ze (Zt (Zs (Zr ?_)))
  refine Xm ?_
  refine Xa ?_
  refine Xa ?_
  refine Ze (Zt ?_)
  refine w_seq_cut (σ := Unit) (fun q => True) (fun q => [(0, Value.string s), (2, .pointer (some ⟨p2, 0, none⟩)), (4, .pointer (some ⟨p4, 0, none⟩)), (5, .pointer (some ⟨p5, 0, none⟩)), (7, .func (.func 67) #[] #[.pointer (some ⟨p5, 0, none⟩)]), (8, .pointer (some ⟨p8, 0, none⟩)), (31, Value.slice xA (rdPs s).length xc), (32, Value.int .i64 ((rdPs s).length : Nat)), (33, Value.int .i64 (k : Nat)), (11, Value.string (pcS k ((rdPs s).getD k ⟨#[]⟩))), (12, Value.string (pcL k ((rdPs s).getD k ⟨#[]⟩)))]) (fun q => (p4, Obj.cells [Value.string (rdC3 s).2.1].toArray 9 (0, 0)) :: (p5, Obj.cells [Value.bool (rdF s k)].toArray 4 (0, 0)) :: (p8, Obj.cells [Value.int .i64 (readC (rdC3 s).1).1, Value.int .i64 n1, rowV S (k), rowV R (k)].toArray 26 (0, 0)) :: (rowO 3 R ++ (rowO 3 S ++ [(p2, Obj.cells #[Value.int .i64 0, Value.int .i64 0, Value.slice none 0 0, Value.slice none 0 0] 26)]))) (fun q => [(wb31, notOwn [(p4, Obj.cells [Value.string (rdC3 s).2.1].toArray 9 (0, 0)), (p5, Obj.cells [Value.bool (rdF s 0)].toArray 4 (0, 0)), (p8, Obj.cells [Value.int .i64 (readC (rdC3 s).1).1, Value.int .i64 n1, Value.slice none 0 0, Value.slice none 0 0].toArray 26 (0, 0)), (p2, Obj.cells #[Value.int .i64 0, Value.int .i64 0, Value.slice none 0 0, Value.slice none 0 0] 26)]), (w, fun _ => True)]) ?_ ?_
  ·refine w_seq ?_
   refine Zr ?_
   refine Xm ?_
   refine Xb rfl (v_gtr rfl rfl) fun b40 hb40 => ?_
   refine Ze (Zt ?_)
   refine w_cond rfl (fun hc40 => ?_) (fun hc40 => ?_)
   ·simp only [hb40, Qz, ne_eq] at hc40
    refine Zr ?_
    refine Xm ?_
    refine x_callv (v := .tuple #[.string (cutG ((rdPs s).getD k ⟨#[]⟩) slash).1, .string (cutG ((rdPs s).getD k ⟨#[]⟩) slash).2.1, .bool (cutG ((rdPs s).getD k ⟨#[]⟩) slash).2.2]) rfl rfl rfl Tryz.func38 Zk rfl (fun w1 hw1 => c_Cut ((rdPs s).getD k ⟨#[]⟩) slash w1 (by omega) (hL.later (hw1.base (by simp)))) ?_
    refine Xm ?_
    refine Xv rfl (v_extract rfl rfl) ?_
    refine Xv rfl (v_extract rfl rfl) ?_
    refine Xv (v := Value.bool (cutG ((rdPs s).getD k ⟨#[]⟩) slash).2.2) rfl (v_extract rfl rfl) ?_
    refine Xa ?_
    refine Xa ?_
    refine Ze ?_
    exact c_norm () trivial (by rw [show pcS k ((rdPs s).getD k ⟨#[]⟩) = (cutG ((rdPs s).getD k ⟨#[]⟩) slash).1 from if_pos (by omega), show pcL k ((rdPs s).getD k ⟨#[]⟩) = (cutG ((rdPs s).getD k ⟨#[]⟩) slash).2.1 from if_pos (by omega)]; exact Zu) (fun _ h => h)
   simp only [hb40, Qz, ne_eq] at hc40
   refine w_skip ?_
   exact c_norm () trivial (by rw [show pcS k ((rdPs s).getD k ⟨#[]⟩) = ((rdPs s).getD k ⟨#[]⟩) from if_neg (by omega), show pcL k ((rdPs s).getD k ⟨#[]⟩) = ⟨#[48]⟩ from if_neg (by omega)]; exact Zu) (fun _ h => h)
  rintro _ _
  refine Zs ?_
  refine rg_inv ([(p8, Obj.cells [Value.int .i64 (readC (rdC3 s).1).1, Value.int .i64 n1, rowV S (k), rowV R (k)].toArray 26 (0, 0))]) 8 (.flt 0 (.flt 1 (.flt 2 (.flt 3 (.gr 4 (.gr 5 (.gr 6 (.flt 7 .done) .nil) .nil) .nil))))) (by repeat (first | exact (List.nil_sublist _).cons_cons _ | apply List.Sublist.cons)) Zk Zk ?_
  refine j_val rfl rfl (v_fieldAddr (off' := 3) u26 rfl sz22 (by decide) rfl rfl) ?_
  refine j_val rfl rfl (v_load u22 rfl rfl (at_ownL (vs := [Value.int .i64 (readC (rdC3 s).1).1, Value.int .i64 n1, rowV S k, rowV R k]) (.head _) rfl)) ?_
  refine j_val rfl rfl (v_move rfl) ?_
  refine j_val rfl rfl (v_move rfl) ?_
  refine j_gr ?_ j_nil
  refine x_mem (own' := (p5, Obj.cells [Value.bool (rdF s k)].toArray 4 (0, 0)) :: (p4, Obj.cells [Value.string (rdC3 s).2.1].toArray 9 (0, 0)) :: (p8, Obj.cells [Value.int .i64 (readC (rdC3 s).1).1, Value.int .i64 n1, rowV S (k), rowV R (k)].toArray 26 (0, 0)) :: (rowO 3 R ++ (rowO 3 S ++ [(p2, Obj.cells #[Value.int .i64 0, Value.int .i64 0, Value.slice none 0 0, Value.slice none 0 0] 26)]))) (ro' := [(wb31, notOwn [(p4, Obj.cells [Value.string (rdC3 s).2.1].toArray 9 (0, 0)), (p5, Obj.cells [Value.bool (rdF s 0)].toArray 4 (0, 0)), (p8, Obj.cells [Value.int .i64 (readC (rdC3 s).1).1, Value.int .i64 n1, Value.slice none 0 0, Value.slice none 0 0].toArray 26 (0, 0)), (p2, Obj.cells #[Value.int .i64 0, Value.int .i64 0, Value.slice none 0 0, Value.slice none 0 0] 26)]), (w, fun _ => True)]) (fun _ h => h.perm (List.Perm.swap _ _ _)) ?_
  refine x_turnV (fst := #[]) (cap := #[.pointer (some ⟨p5, 0, none⟩)]) (fun n : Int => Value.int .i64 n) (fun n => atoiB (pcS k ((rdPs s).getD k ⟨#[]⟩)) = true → n = atoiV (pcS k ((rdPs s).getD k ⟨#[]⟩))) (fun _ => (p5, Obj.cells [Value.bool (rdF s k && atoiB (pcS k ((rdPs s).getD k ⟨#[]⟩)))].toArray 4 (0, 0)) :: (p4, Obj.cells [Value.string (rdC3 s).2.1].toArray 9 (0, 0)) :: (p8, Obj.cells [Value.int .i64 (readC (rdC3 s).1).1, Value.int .i64 n1, rowV S (k), rowV R (k)].toArray 26 (0, 0)) :: (rowO 3 R ++ (rowO 3 S ++ [(p2, Obj.cells #[Value.int .i64 0, Value.int .i64 0, Value.slice none 0 0, Value.slice none 0 0] 26)]))) rfl rfl rfl Tryz.func67 Zk rfl (fun w1 hw1 => by
   have h := c_rd2 (w0 := w) (by simp) hL p5 (pcS k ((rdPs s).getD k ⟨#[]⟩)) (rdF s k) hw1 (by omega)
   exact h) ?_
  intro m1 hm1
  refine Ze ?_
  refine j_end (by repeat (first | exact (List.nil_sublist _).cons_cons _ | apply List.Sublist.cons)) ?_
  refine j_gr ?_ j_nil
  refine x_buildSliceL (cs := [Value.int .i64 m1]) rfl rfl rfl u22 sz3 zr3 rfl rfl rfl ?_
  intro p52
  refine Ze ?_
  refine j_end (by repeat (first | exact (List.nil_sublist _).cons_cons _ | apply List.Sublist.cons)) ?_
  refine j_gr ?_ j_nil
  refine x_append (e := 3) [(p52, Obj.cells [Value.int .i64 m1].toArray 3), (p5, Obj.cells [Value.bool (rdF s k && atoiB (pcS k ((rdPs s).getD k ⟨#[]⟩)))].toArray 4 (0, 0)), (p4, Obj.cells [Value.string (rdC3 s).2.1].toArray 9 (0, 0)), (p8, Obj.cells [Value.int .i64 (readC (rdC3 s).1).1, Value.int .i64 n1, rowV S (k), rowV R (k)].toArray 26 (0, 0))] (l2 := rowO 3 S ++ [(p2, Obj.cells #[Value.int .i64 0, Value.int .i64 0, Value.slice none 0 0, Value.slice none 0 0] 26)]) R (len := k) (xs := X.map (Value.int .i64)) rfl rfl rfl rfl (by simp [List.append_assoc]) hR u22 ap3 rfl rfl (m := 1) (news := [Value.int .i64 m1]) (fun i hi => at_ownL (vs := [Value.int .i64 m1]) (.head _) (by rw [Nat.zero_add]; exact List.getElem?_eq_getElem hi)) rfl Zx (by omega) fun R' hR' => ?_
  refine Ze ?_
  refine j_end (by repeat (first | exact (List.nil_sublist _).cons_cons _ | apply List.Sublist.cons)) ?_
  refine j_val rfl rfl (v_fieldAddr (off' := 3) u26 rfl sz22 (by decide) rfl rfl) ?_
  refine j_done ?_
  refine x_store (cs := [Value.int .i64 (readC (rdC3 s).1).1, Value.int .i64 n1, rowV S k, rowV R k]) (off := 3) (e := 26) (l2 := rowO 3 R' ++ (rowO 3 S ++ [(p2, Obj.cells #[Value.int .i64 0, Value.int .i64 0, Value.slice none 0 0, Value.slice none 0 0] 26)])) [(p52, Obj.cells [Value.int .i64 m1].toArray 3), (p5, Obj.cells [Value.bool (rdF s k && atoiB (pcS k ((rdPs s).getD k ⟨#[]⟩)))].toArray 4 (0, 0)), (p4, Obj.cells [Value.string (rdC3 s).2.1].toArray 9 (0, 0))] rfl rfl rfl (by simp [List.append_assoc]) sz22 rfl (by show 4 ≤ 4; decide) ?_
  refine Ze (Zt ?_)
  refine x_memW (own' := (p4, Obj.cells [Value.string (rdC3 s).2.1].toArray 9 (0, 0)) :: (p5, Obj.cells [Value.bool (rdF s k && atoiB (pcS k ((rdPs s).getD k ⟨#[]⟩)))].toArray 4 (0, 0)) :: (p8, Obj.cells [Value.int .i64 (readC (rdC3 s).1).1, Value.int .i64 n1, rowV S (k), rowV R' (k + 1)].toArray 26 (0, 0)) :: (rowO 3 R' ++ (rowO 3 S ++ [(p2, Obj.cells #[Value.int .i64 0, Value.int .i64 0, Value.slice none 0 0, Value.slice none 0 0] 26)]))) (ro' := [(wb31, notOwn [(p4, Obj.cells [Value.string (rdC3 s).2.1].toArray 9 (0, 0)), (p5, Obj.cells [Value.bool (rdF s 0)].toArray 4 (0, 0)), (p8, Obj.cells [Value.int .i64 (readC (rdC3 s).1).1, Value.int .i64 n1, Value.slice none 0 0, Value.slice none 0 0].toArray 26 (0, 0)), (p2, Obj.cells #[Value.int .i64 0, Value.int .i64 0, Value.slice none 0 0, Value.slice none 0 0] 26)]), (w, fun _ => True)]) (fun _ h => (h.less (List.sublist_cons_self _ _) (fun _ h => h)).perm (List.Perm.swap _ _ _)) ?_
  refine rg_inv ([(p8, Obj.cells [Value.int .i64 (readC (rdC3 s).1).1, Value.int .i64 n1, rowV S (k), rowV R' (k + 1)].toArray 26 (0, 0))]) 8 (.flt 0 (.flt 1 (.flt 2 (.flt 3 (.gr 4 (.gr 5 (.gr 6 (.flt 7 .done) .nil) .nil) .nil))))) (by repeat (first | exact (List.nil_sublist _).cons_cons _ | apply List.Sublist.cons)) Zk Zk ?_
  refine j_val rfl rfl (v_fieldAddr (off' := 2) u26 rfl sz22 (by decide) rfl rfl) ?_
  refine j_val rfl rfl (v_load u22 rfl rfl (at_ownL (vs := [Value.int .i64 (readC (rdC3 s).1).1, Value.int .i64 n1, rowV S k, rowV R' (k + 1)]) (.head _) rfl)) ?_
  refine j_val rfl rfl (v_move rfl) ?_
  refine j_val rfl rfl (v_move rfl) ?_
  refine j_gr ?_ j_nil
  refine x_mem (own' := (p5, Obj.cells [Value.bool (rdF s k && atoiB (pcS k ((rdPs s).getD k ⟨#[]⟩)))].toArray 4 (0, 0)) :: (p4, Obj.cells [Value.string (rdC3 s).2.1].toArray 9 (0, 0)) :: (p8, Obj.cells [Value.int .i64 (readC (rdC3 s).1).1, Value.int .i64 n1, rowV S (k), rowV R' (k + 1)].toArray 26 (0, 0)) :: (rowO 3 R' ++ (rowO 3 S ++ [(p2, Obj.cells #[Value.int .i64 0, Value.int .i64 0, Value.slice none 0 0, Value.slice none 0 0] 26)]))) (ro' := [(wb31, notOwn [(p4, Obj.cells [Value.string (rdC3 s).2.1].toArray 9 (0, 0)), (p5, Obj.cells [Value.bool (rdF s 0)].toArray 4 (0, 0)), (p8, Obj.cells [Value.int .i64 (readC (rdC3 s).1).1, Value.int .i64 n1, Value.slice none 0 0, Value.slice none 0 0].toArray 26 (0, 0)), (p2, Obj.cells #[Value.int .i64 0, Value.int .i64 0, Value.slice none 0 0, Value.slice none 0 0] 26)]), (w, fun _ => True)]) (fun _ h => h.perm (List.Perm.swap _ _ _)) ?_
  refine x_turnV (fst := #[]) (cap := #[.pointer (some ⟨p5, 0, none⟩)]) (fun n : Int => Value.int .i64 n) (fun n => atoiB (pcL k ((rdPs s).getD k ⟨#[]⟩)) = true → n = atoiV (pcL k ((rdPs s).getD k ⟨#[]⟩))) (fun _ => (p5, Obj.cells [Value.bool (rdF s k && atoiB (pcS k ((rdPs s).getD k ⟨#[]⟩)) && atoiB (pcL k ((rdPs s).getD k ⟨#[]⟩)))].toArray 4 (0, 0)) :: (p4, Obj.cells [Value.string (rdC3 s).2.1].toArray 9 (0, 0)) :: (p8, Obj.cells [Value.int .i64 (readC (rdC3 s).1).1, Value.int .i64 n1, rowV S (k), rowV R' (k + 1)].toArray 26 (0, 0)) :: (rowO 3 R' ++ (rowO 3 S ++ [(p2, Obj.cells #[Value.int .i64 0, Value.int .i64 0, Value.slice none 0 0, Value.slice none 0 0] 26)]))) rfl rfl rfl Tryz.func67 Zk rfl (fun w1 hw1 => by
   have h := c_rd2 (w0 := w) (by simp) hL p5 (pcL k ((rdPs s).getD k ⟨#[]⟩)) (rdF s k && atoiB (pcS k ((rdPs s).getD k ⟨#[]⟩))) hw1 (by omega)
   exact h) ?_
  intro m2 hm2
  refine Ze ?_
  refine j_end (by repeat (first | exact (List.nil_sublist _).cons_cons _ | apply List.Sublist.cons)) ?_
  refine j_gr ?_ j_nil
  refine x_buildSliceL (cs := [Value.int .i64 m2]) rfl rfl rfl u22 sz3 zr3 rfl rfl rfl ?_
  intro p60
  refine Ze ?_
  refine j_end (by repeat (first | exact (List.nil_sublist _).cons_cons _ | apply List.Sublist.cons)) ?_
  refine j_gr ?_ j_nil
  refine x_append (e := 3) ([(p60, Obj.cells [Value.int .i64 m2].toArray 3), (p5, Obj.cells [Value.bool (rdF s k && atoiB (pcS k ((rdPs s).getD k ⟨#[]⟩)) && atoiB (pcL k ((rdPs s).getD k ⟨#[]⟩)))].toArray 4 (0, 0)), (p4, Obj.cells [Value.string (rdC3 s).2.1].toArray 9 (0, 0)), (p8, Obj.cells [Value.int .i64 (readC (rdC3 s).1).1, Value.int .i64 n1, rowV S (k), rowV R' (k + 1)].toArray 26 (0, 0))] ++ rowO 3 R') (l2 := [(p2, Obj.cells #[Value.int .i64 0, Value.int .i64 0, Value.slice none 0 0, Value.slice none 0 0] 26)]) S (len := k) (xs := Y.map (Value.int .i64)) rfl rfl rfl rfl (by simp [List.append_assoc]) hS u22 ap3 rfl rfl (m := 1) (news := [Value.int .i64 m2]) (fun i hi => at_ownL (vs := [Value.int .i64 m2]) (.head _) (by rw [Nat.zero_add]; exact List.getElem?_eq_getElem hi)) rfl Zx (by omega) fun S' hS' => ?_
  refine Ze ?_
  refine j_end (by repeat (first | exact (List.nil_sublist _).cons_cons _ | apply List.Sublist.cons)) ?_
  refine j_val rfl rfl (v_fieldAddr (off' := 2) u26 rfl sz22 (by decide) rfl rfl) ?_
  refine j_done ?_
  refine x_store (cs := [Value.int .i64 (readC (rdC3 s).1).1, Value.int .i64 n1, rowV S k, rowV R' (k + 1)]) (off := 2) (e := 26) (l2 := rowO 3 R' ++ (rowO 3 S' ++ [(p2, Obj.cells #[Value.int .i64 0, Value.int .i64 0, Value.slice none 0 0, Value.slice none 0 0] 26)])) [(p60, Obj.cells [Value.int .i64 m2].toArray 3), (p5, Obj.cells [Value.bool (rdF s k && atoiB (pcS k ((rdPs s).getD k ⟨#[]⟩)) && atoiB (pcL k ((rdPs s).getD k ⟨#[]⟩)))].toArray 4 (0, 0)), (p4, Obj.cells [Value.string (rdC3 s).2.1].toArray 9 (0, 0))] rfl rfl rfl (by simp [List.append_assoc]) sz22 rfl (by show 3 ≤ 4; decide) ?_
  refine Ze (b_norm (Zt (Zr ?_)))
  refine Xv rfl (v_addi rfl rfl rfl Zo) ?_
  refine Xm ?_
  refine Ze ?_
  exact l_norm (x := (R, S, k, X, Y)) (μ := fun x : RowS × RowS × Nat × List Int × List Int => (rdPs s).length - x.2.2.1) (R', S', k + 1, X ++ [m1], Y ++ [m2]) ⟨hkl, by dsimp only; rw [List.map_append]; exact hR', by dsimp only; rw [List.map_append]; exact hS', fun hf => by
   dsimp only at hf ⊢
   have hf2 := hf
   unfold rdF at hf2
   simp only [Bool.and_eq_true] at hf2
   obtain ⟨g1, g2⟩ := hXY hf2.1.1
   rw [rdS_succ, rdL_succ, g1, g2, hm1 hf2.1.2, hm2 hf2.2]
   exact ⟨rfl, rfl⟩⟩ (by simp only; omega) Zu (fun w1 h => (h.less (List.sublist_cons_self _ _) (fun _ h => h)).perm (List.Perm.swap _ _ _))
 simp only [hb34, Qz, ne_eq] at hc34
 obtain rfl : k = (rdPs s).length := by omega
 obtain ⟨PP, hPP⟩ : ∃ q : Pat, q = ⟨(readC (rdC3 s).1).1, n1, Y, X⟩ := ⟨_, rfl⟩
 have hXl : X.length = (rdPs s).length := by have := hR.1; simpa using this
 have hYl : Y.length = (rdPs s).length := by have := hS.1; simpa using this
 have hfull : rdF s (rdPs s).length = true → PP = rdP s := fun hf => by
  obtain ⟨g1, g2⟩ := hXY hf
  have hf0 := rdF_pre hf
  unfold rdF at hf0
  simp only [Bool.and_eq_true] at hf0
  rw [hPP, g1, g2, hn1 hf0.1.2]; rfl
 refine w_exit ?_
 refine t_exit ?_
 refine t_exit ?_
 refine b_hit ?_
 refine Zt (Zs (Zs (Zr ?_)))
 refine Xb rfl (v_load u4 rfl rfl (at_ownL (.tail _ (.head _)) rfl)) fun b64 hb64 => ?_
 refine Xb rfl (v_not rfl) fun b65 hb65 => ?_
 refine Xm ?_
 refine Xg ?_
 refine Xj rfl rfl rfl (fun hg0 => by subst hg0; (try simp only [Qy]); exact v_seql rfl rfl) fun b68 hb68 => ?_
 refine Xb rfl (v_or rfl rfl) fun b69 hb69 => ?_
 refine Xm ?_
 refine Xi rfl rfl rfl (fun hg0 => by subst hg0; (try simp only [Qy]); exact v_load_blk (e := 26) (fz := (0, 0)) (cs := ([Value.int .i64 (readC (rdC3 s).1).1, Value.int .i64 n1, rowV S (rdPs s).length, rowV R (rdPs s).length]).toArray) u26 rfl rfl (.tail _ (.tail _ (.head _))) (by exact sz26)) ?_
 have hWr : rdF s (rdPs s).length = true → ∀ w1, Mem w1 ((p4, Obj.cells [Value.string (rdC3 s).2.1].toArray 9 (0, 0)) :: (p5, Obj.cells [Value.bool (rdF s (rdPs s).length)].toArray 4 (0, 0)) :: (p8, Obj.cells [Value.int .i64 (readC (rdC3 s).1).1, Value.int .i64 n1, rowV S ((rdPs s).length), rowV R ((rdPs s).length)].toArray 26 (0, 0)) :: (rowO 3 R ++ (rowO 3 S ++ [(p2, Obj.cells #[Value.int .i64 0, Value.int .i64 0, Value.slice none 0 0, Value.slice none 0 0] 26)]))) ([(wb31, notOwn [(p4, Obj.cells [Value.string (rdC3 s).2.1].toArray 9 (0, 0)), (p5, Obj.cells [Value.bool (rdF s 0)].toArray 4 (0, 0)), (p8, Obj.cells [Value.int .i64 (readC (rdC3 s).1).1, Value.int .i64 n1, Value.slice none 0 0, Value.slice none 0 0].toArray 26 (0, 0)), (p2, Obj.cells #[Value.int .i64 0, Value.int .i64 0, Value.slice none 0 0, Value.slice none 0 0] 26)]), (w, fun _ => True)]) → Calls Tryz.prog 54 #[.agg #[.int .i64 (readC (rdC3 s).1).1, .int .i64 n1, rowV S (rdPs s).length, rowV R (rdPs s).length]] w1 fun e w2 => e = .returned (.string (writeQ (⟨(readC (rdC3 s).1).1, n1, Y, X⟩ : Pat))) ∧ Later w1 w2 := fun hf9 w1 hw1 => by
  obtain ⟨g1, g2⟩ := hXY hf9
  have hf0 := rdF_pre hf9
  unfold rdF at hf0
  simp only [Bool.and_eq_true] at hf0
  exact c_Write (D := fun _ => True) (⟨(readC (rdC3 s).1).1, n1, Y, X⟩ : Pat) w1 ⟨readC_in _, (by show in64 n1; rw [hn1 hf0.1.2]; exact atoiV_in _), rowI_rd (e := 3) hS hYl.symm (by rw [g2]; intro d hd; obtain ⟨i, _, rfl⟩ := List.mem_map.1 hd; exact atoiV_in _) hw1 (fun q hq => by repeat (first | exact List.mem_append_left _ hq | exact hq | apply List.mem_append_right | apply List.Mem.tail)) (fun _ _ => trivial), rowI_rd (e := 3) hR hXl.symm (by rw [g1]; intro d hd; obtain ⟨i, _, rfl⟩ := List.mem_map.1 hd; exact atoiV_in _) hw1 (fun q hq => by repeat (first | exact List.mem_append_left _ hq | exact hq | apply List.mem_append_right | apply List.Mem.tail)) (fun _ _ => trivial)⟩ (hL.later (hw1.base (by simp)))
 refine x_call_if [] rfl rfl rfl rfl rfl Tryz.func54 Zk (fun hg => by obtain ⟨hg0, _⟩ := hg; subst hg0; (try simp only [Qy]); refine ⟨_, rfl, ?_⟩; exact fun w1 hw1 => hWr (by have g9 := hb69.symm; simp only [hb65, hb64, Bool.or_eq_false_iff, Bool.not_eq_false'] at g9; exact g9.1) w1 hw1) ?_
 refine Xg ?_
 refine Xj rfl rfl rfl (fun hg0 => by subst hg0; (try simp only [Qy]); exact v_sneq rfl rfl) fun b74 hb74 => ?_
 refine Xb rfl (v_or rfl rfl) fun b75 hb75 => ?_
 refine Ze (Zt ?_)
 refine w_cond rfl (fun hc75 => ?_) (fun hc75 => ?_)
 ·have hno : readQ s = (zeroPat, 11) := by
   unfold readQ
   rw [if_neg]
   rintro ⟨z1, z2, z3⟩
   have hz := hfull z1
   rw [hPP] at hz
   rw [hb75, hb74, hb69, hb68, hb65, hb64, z1, hz] at hc75
   simp [z2, z3] at hc75
  refine Zs (Zr ?_)
  refine Xv (v := Value.agg #[.int .i64 0, .int .i64 0, .slice none 0 0, .slice none 0 0]) rfl (v_buildL (places := [(0, 1), (1, 1), (2, 1), (3, 1)]) u26 zr26 Zk rfl rfl) ?_
  refine x_store0 (cs := #[Value.int .i64 0, Value.int .i64 0, Value.slice none 0 0, Value.slice none 0 0]) (e := 26) (l2 := []) ((p4, Obj.cells [Value.string (rdC3 s).2.1].toArray 9 (0, 0)) :: (p5, Obj.cells [Value.bool (rdF s (rdPs s).length)].toArray 4 (0, 0)) :: (p8, Obj.cells [Value.int .i64 (readC (rdC3 s).1).1, Value.int .i64 n1, rowV S ((rdPs s).length), rowV R ((rdPs s).length)].toArray 26 (0, 0)) :: (rowO 3 R ++ rowO 3 S)) rfl rfl rfl (by simp [List.append_assoc]) sz26 rfl rfl ?_
  refine Xa ?_
  refine Ze (Zt (w_ret (t_ret ?_)))
  refine retct rfl rfl rfl (List.mem_append_right _ (.head _)) u26 rfl sz26 (fun w' hm => ⟨.slice none 0 0, .slice none 0 0, by rw [hno]; rfl, hm.base (by simp), ?_⟩)
  rw [hno]
  exact ⟨by unfold in64; decide, by unfold in64; decide, ⟨none, 0, rfl, Nat.le_refl _, Nat.zero_le _, fun h => absurd h (by decide)⟩, ⟨none, 0, rfl, Nat.le_refl _, Nat.zero_le _, fun h => absurd h (by decide)⟩⟩
 have hc := hc75
 rw [hb75, hb74, hb69, hb68, hb65, hb64] at hc
 simp only [Bool.or_eq_false_iff, Bool.not_eq_false', decide_eq_false_iff_not, ne_eq, Decidable.not_not] at hc
 obtain ⟨⟨z1, z2⟩, z3⟩ := hc
 have hz := hfull z1
 rw [hPP] at hz
 have hyes : readQ s = ((⟨(readC (rdC3 s).1).1, n1, Y, X⟩ : Pat), 0) := by
  unfold readQ
  rw [if_pos ⟨z1, z2, by rw [← hz]; exact z3⟩, hz]
 obtain ⟨g1, g2⟩ := hXY z1
 have hf0 := rdF_pre z1
 unfold rdF at hf0
 simp only [Bool.and_eq_true] at hf0
 refine w_skip (Zt (Zs (Zr ?_)))
 refine Xv rfl (v_load_blk (e := 26) (fz := (0, 0)) (cs := ([Value.int .i64 (readC (rdC3 s).1).1, Value.int .i64 n1, rowV S (rdPs s).length, rowV R (rdPs s).length]).toArray) u26 rfl rfl (.tail _ (.tail _ (.head _))) (by exact sz26)) ?_
 refine x_store0 (cs := #[Value.int .i64 0, Value.int .i64 0, Value.slice none 0 0, Value.slice none 0 0]) (e := 26) (l2 := []) ((p4, Obj.cells [Value.string (rdC3 s).2.1].toArray 9 (0, 0)) :: (p5, Obj.cells [Value.bool (rdF s (rdPs s).length)].toArray 4 (0, 0)) :: (p8, Obj.cells [Value.int .i64 (readC (rdC3 s).1).1, Value.int .i64 n1, rowV S ((rdPs s).length), rowV R ((rdPs s).length)].toArray 26 (0, 0)) :: (rowO 3 R ++ rowO 3 S)) rfl rfl rfl (by simp [List.append_assoc]) sz26 rfl rfl ?_
 refine Xa ?_
 refine Ze (Zt (w_ret ?_))
 refine retct rfl rfl rfl (List.mem_append_right _ (.head _)) u26 rfl sz26 (fun w' hm => ⟨rowV S (rdPs s).length, rowV R (rdPs s).length, by rw [hyes]; rfl, hm.base (by simp), ?_⟩)
 rw [hyes]
 refine ⟨readC_in _, (by show in64 n1; rw [hn1 hf0.1.2]; exact atoiV_in _), rowI_rd (e := 3) hS hYl.symm (by rw [g2]; intro d hd; obtain ⟨i, _, rfl⟩ := List.mem_map.1 hd; exact atoiV_in _) hm ?_ ?_, rowI_rd (e := 3) hR hXl.symm (by rw [g1]; intro d hd; obtain ⟨i, _, rfl⟩ := List.mem_map.1 hd; exact atoiV_in _) hm ?_ ?_⟩
 ·intro q hq; simp [hq]
 ·intro q hq; exact hm.newer (by simp) (by simp [hq])
 ·intro q hq; simp [hq]
 intro q hq; exact hm.newer (by simp) (by simp [hq])
open Go.RowKit Go.PK
theorem civ_ex : civ 19723 = (2024, 1, 1) := civ_eq (by decide) ⟨by decide, by decide, by decide, by decide, by decide, by decide +kernel⟩
theorem text_ex : textR 19723 = ⟨#[50, 48, 50, 52, 45, 48, 49, 45, 48, 49]⟩ := by unfold textR; rw [if_pos (by decide), civ_ex]; decide +kernel
theorem read_ex : readC ⟨#[50, 48, 50, 52, 45, 48, 49, 45, 48, 49]⟩ = (19723, 0) := by
 have e1 : yO ⟨#[50, 48, 50, 52, 45, 48, 49, 45, 48, 49]⟩ = 2024 := by decide +kernel
 have e2 : mO ⟨#[50, 48, 50, 52, 45, 48, 49, 45, 48, 49]⟩ = 1 := by decide +kernel
 have e3 : dO ⟨#[50, 48, 50, 52, 45, 48, 49, 45, 48, 49]⟩ = 1 := by decide +kernel
 have hv : validD 2024 1 1 := ⟨by decide, by decide, by decide, by decide, by decide, by decide +kernel⟩
 have e4 : dayV 2024 1 1 = 19723 := by unfold dayV; rw [if_pos hv]; decide +kernel
 unfold readC
 rw [e1, e2, e3, e4, text_ex, if_pos ⟨rfl, hv, rfl⟩]
theorem ex_rdP : rdP exT = exP := by
 unfold rdP
 rw [ex_c3, read_ex, ex_l.1, ex_l.2.1, ex_l.2.2]; rfl
theorem ex_write : writeQ exP = exT := by
 unfold writeQ
 rw [if_pos ex_right]
 show wrTo exP 1 = exT
 unfold wrTo wrTo
 show _ ++ textR 19723 ++ _ ++ _ ++ _ = _
 rw [text_ex]; decide +kernel
theorem ex_read : readQ exT = (exP, 0) := by
 unfold readQ
 rw [if_pos ⟨ex_f, by decide, by rw [ex_rdP, ex_write]⟩, ex_rdP]
theorem ex_dl : dlyP exP exE1 = (37, 2) := by decide +kernel
theorem ex_miss : missP exP exE1 19850 = [⟨[12, 11], 19723⟩, ⟨[13, 2], 19850⟩] := by
 unfold missP
 rw [if_pos ex_right, ex_dl]; exact ex_dly
theorem ex_predQ : predQ exP 4 = [⟨[12, 11], 19723⟩, ⟨[12, 12], 19753⟩, ⟨[13, 1], 19783⟩, ⟨[13, 2], 19813⟩] := by
 unfold predQ
 rw [if_pos ex_right]; exact ex_pred
theorem ex_ok1 : ∀ x ∈ exE1, entOK x := by intro x hx; rw [List.mem_singleton.1 hx]; unfold entOK okDay; decide
theorem ex_ok2 : ∀ x ∈ exE2, entOK x := by intro x hx; rcases List.mem_cons.1 hx with rfl | hx; (· unfold entOK okDay; decide); rw [List.mem_singleton.1 hx]; unfold entOK okDay; decide
open Go.RowKit Go.PK
set_option maxHeartbeats 8000000 in
theorem c_sanity (w : World) (hL : LD w) :
  Calls Tryz.prog 8 #[] w fun e w' => e = .returned (.bool (true)) ∧ Later w w' := by
 refine enter (vs := []) Tryz.func8 rfl Tryz.ntmps8 rfl ?_
 refine Zs (Zr ?_)
 refine Xa ?_
 refine Ze (Zt (Zs (Zr ?_)))
 refine x_call (R := fun v wa wb => ∃ v1 v2, v = .tuple #[.agg #[.int .i64 19723, .int .i64 30, v1, v2], .int .i64 0] ∧ patRd (fun b => wa.heap.size ≤ b) wb exP v1 v2) rfl rfl rfl Tryz.func28 Zk rfl (fun w1 hw1 => by
  have h := c_Read exT w1 (by decide) (hL.later (hw1.base (by simp)))
  rw [ex_read] at h
  exact h.mono fun e w2 ⟨v1, v2, h1, h2, h3⟩ => ⟨_, h1, h2, v1, v2, rfl, h3⟩) ?_
 intro v11 wa11 wb11 hm11 hl11 hR11
 obtain ⟨v1, v2, rfl, hp1, hp2, hpa, hpb⟩ := hR11
 obtain ⟨A1, c1, rfl, _⟩ := id hpa
 obtain ⟨A2, c2, rfl, _⟩ := id hpb
 refine Xm ?_
 refine Xv rfl (v_extract rfl rfl) ?_
 refine Xv rfl (v_extract rfl rfl) ?_
 refine x_alloc rfl rfl rfl zr26 ?_
 intro p1
 refine x_store0 [] rfl rfl rfl rfl sz26 rfl rfl ?_
 refine Xa ?_
 refine Ze (Zt (Zs (Zr ?_)))
 refine Xv rfl (v_load_blk (e := 26) (fz := (0, 0)) (cs := ([Value.int .i64 19723, Value.int .i64 30, Value.slice A1 2 c1, Value.slice A2 2 c2]).toArray) u26 rfl rfl (.head _) (by exact sz26)) ?_
 refine x_buildSliceL (cs := [Value.int .i64 13, Value.int .i64 2]) rfl rfl rfl u22 sz3 zr3 rfl rfl rfl ?_
 intro p16
 refine x_callv (v := .tuple #[.int .i64 3, .bool true]) rfl rfl rfl Tryz.func29 Zk rfl (fun w1 hw1 => by
  have h := c_Number exP [13, 2] w1 (⟨by unfold in64; decide, by unfold in64; decide, keep_new hpa hw1 Zh hm11, keep_new hpb hw1 Zh hm11⟩ : patRd (fun _ => True) w1 exP (Value.slice A1 2 c1) (Value.slice A2 2 c2)) (num_row (e := 3) hw1 [13, 2] (.head _) (by intro d hd; simp at hd; unfold in64; omega) (by simp [maxLen])) (hL.later (hw1.base (by simp)))
  rw [ex_num] at h; exact h) ?_
 refine Xm ?_
 refine Xv rfl (v_extract rfl rfl) ?_
 refine Xv (v := Value.bool true) rfl (v_extract rfl rfl) ?_
 refine Xa ?_
 refine Xa ?_
 refine Ze (Zt (Zs (Zs (Zr ?_))))
 refine Xm ?_
 refine Xb rfl (v_neq rfl rfl) fun b21 hb21 => ?_
 obtain rfl : b21 = false := hb21.trans (by decide)
 refine Xm ?_
 refine x_valg rfl rfl rfl rfl rfl (v_move rfl) ?_
 refine x_boolg rfl rfl rfl rfl rfl (v_neq rfl rfl) fun b24 hb24 => ?_
 obtain rfl : b24 = false := hb24.trans (by decide)
 refine Xb rfl (v_or rfl rfl) fun b25 hb25 => ?_
 obtain rfl : b25 = false := hb25
 refine Xm ?_
 refine x_valg rfl rfl rfl rfl rfl (v_move rfl) ?_
 refine x_valg (v := Value.bool false) rfl rfl rfl rfl rfl (v_not (b := true) rfl) ?_
 refine Xv (v := Value.bool false) rfl (v_or (g := false) (v := false) rfl rfl) ?_
 refine Xm ?_
 refine x_valg rfl rfl rfl rfl rfl (v_load_blk (e := 26) (fz := (0, 0)) (cs := ([Value.int .i64 19723, Value.int .i64 30, Value.slice A1 2 c1, Value.slice A2 2 c2]).toArray) u26 rfl rfl (.tail _ (.head _)) (by exact sz26)) ?_
 refine x_call_g (R := fun v wa wb => sliceRd tyIss (fun b => wa.heap.size ≤ b) wb v [⟨[12, 11], 19723⟩, ⟨[12, 12], 19753⟩, ⟨[13, 1], 19783⟩, ⟨[13, 2], 19813⟩]) rfl rfl rfl rfl rfl Tryz.func30 Zk rfl (fun w1 hw1 => by
  have h := c_Predict exP 4 w1 (⟨by unfold in64; decide, by unfold in64; decide, keep_new hpa hw1 Zh hm11, keep_new hpb hw1 Zh hm11⟩ : patRd (fun _ => True) w1 exP (Value.slice A1 2 c1) (Value.slice A2 2 c2)) (by unfold in64; decide) (hL.later (hw1.base (by simp)))
  rw [ex_predQ] at h; exact h) ?_
 intro v32 wa32 wb32 hm32 hl32 hR32
 refine x_buildSlice_g (cs := [Value.int .i64 12, Value.int .i64 11]) rfl rfl rfl rfl rfl u22 sz3 zr3 rfl rfl rfl ?_
 intro p33
 refine x_callvg (v := .agg #[Value.slice (some ⟨p33, 0, none⟩) 2 2, Value.int .i64 19723]) rfl rfl rfl rfl rfl Tryz.func31 Zk rfl (fun w1 hw1 => c_lissue 19723 _ _ _ w1) ?_
 refine x_buildSlice_g (cs := [Value.int .i64 12, Value.int .i64 12]) rfl rfl rfl rfl rfl u22 sz3 zr3 rfl rfl rfl ?_
 intro p35
 refine x_callvg (v := .agg #[Value.slice (some ⟨p35, 0, none⟩) 2 2, Value.int .i64 19753]) rfl rfl rfl rfl rfl Tryz.func31 Zk rfl (fun w1 hw1 => c_lissue 19753 _ _ _ w1) ?_
 refine x_buildSlice_g (cs := [Value.int .i64 13, Value.int .i64 1]) rfl rfl rfl rfl rfl u22 sz3 zr3 rfl rfl rfl ?_
 intro p37
 refine x_callvg (v := .agg #[Value.slice (some ⟨p37, 0, none⟩) 2 2, Value.int .i64 19783]) rfl rfl rfl rfl rfl Tryz.func31 Zk rfl (fun w1 hw1 => c_lissue 19783 _ _ _ w1) ?_
 refine x_buildSlice_g (cs := [Value.int .i64 13, Value.int .i64 2]) rfl rfl rfl rfl rfl u22 sz3 zr3 rfl rfl rfl ?_
 intro p39
 refine x_callvg (v := .agg #[Value.slice (some ⟨p39, 0, none⟩) 2 2, Value.int .i64 19813]) rfl rfl rfl rfl rfl Tryz.func31 Zk rfl (fun w1 hw1 => c_lissue 19813 _ _ _ w1) ?_
 refine x_buildSlice_g (cs := isC [(p33, [12, 11], 19723), (p35, [12, 12], 19753), (p37, [13, 1], 19783), (p39, [13, 2], 19813)]) rfl rfl rfl rfl rfl u40 sz48 zr48 rfl rfl rfl ?_
 intro p41
 refine x_callbg rfl rfl rfl rfl rfl Tryz.func16 Zk rfl (fun w1 hw1 => c_SameI w1 (keep_new hR32 hw1 (.head _) hm32) (iss_row (e := 48) (e' := 3) hw1 (b := p41) [(p33, [12, 11], 19723), (p35, [12, 12], 19753), (p37, [13, 1], 19783), (p39, [13, 2], 19813)] Zh (by intro x hx; simp only [List.mem_cons, List.mem_nil_iff, or_false] at hx; rcases hx with rfl | rfl | rfl | rfl <;> (repeat (first | exact List.Mem.head _ | apply List.Mem.tail))) (by intro x hx; simp only [List.mem_cons, List.mem_nil_iff, or_false] at hx; rcases hx with rfl | rfl | rfl | rfl <;> exact ⟨by intro d hd; simp at hd; unfold in64; omega, by unfold in64; dsimp only; omega, by simp [maxLen]⟩) (by simp))) fun b42 hb42 => ?_
 obtain rfl : b42 = true := hb42.trans (decide_eq_true rfl)
 refine x_valg (v := Value.bool false) rfl rfl rfl rfl rfl (v_not (b := true) rfl) ?_
 refine Xv (v := Value.bool false) rfl (v_or (g := false) (v := false) rfl rfl) ?_
 refine Ze (Zt ?_)
 refine w_cond rfl (fun hc44 => ?_) (fun hc44 => ?_)
 ·cases hc44
 skip
 refine w_skip (Zt (Zs ?_))
 refine x_memW (own' := [(p1, Obj.cells [Value.int .i64 19723, Value.int .i64 30, Value.slice A1 2 c1, Value.slice A2 2 c2].toArray 26 (0, 0))]) (ro' := [(wb11, notOwn []), (w, fun _ => True)]) (fun _ h => h.less (by repeat (first | exact List.Sublist.refl _ | apply List.Sublist.cons)) (fun s hs => by simp at hs; rcases hs with rfl | rfl <;> simp)) ?_
 refine Zr ?_
 refine Xv rfl (v_load_blk (e := 26) (fz := (0, 0)) (cs := ([Value.int .i64 19723, Value.int .i64 30, Value.slice A1 2 c1, Value.slice A2 2 c2]).toArray) u26 rfl rfl (.head _) (by exact sz26)) ?_
 refine x_own (τ := Nat × RowS × RowS) (fun x => .pointer (some ⟨x.1, 0, none⟩)) (fun x => SerOK exP [] x.2.1 x.2.2 none) (fun x => (x.1, Obj.cells (serC exP x.2.1 x.2.2 none 0).toArray 61 (0, 0)) :: (rowO 85 none ++ (rowO 3 x.2.1 ++ (rowO 3 x.2.2 ++ [(p1, Obj.cells [Value.int .i64 19723, Value.int .i64 30, Value.slice A1 2 c1, Value.slice A2 2 c2].toArray 26 (0, 0))])))) rfl rfl rfl Tryz.func10 Zk rfl (fun w1 hw1 => (c_New exP w1 (⟨by unfold in64; decide, by unfold in64; decide, keep_new hpa hw1 Zh hm11, keep_new hpb hw1 Zh hm11⟩ : patRd (fun _ => True) w1 exP (Value.slice A1 2 c1) (Value.slice A2 2 c2)) ex_right (hL.later (hw1.base (by simp)))).mono fun e w2 ⟨bq, r1, r2, h1, h2, h3, h4⟩ => ⟨(bq, r1, r2), h1, h2, h3, (hw1.join2 h4).to (by simp [rowO, List.append_assoc])⟩) fun q hS0 => ?_
 obtain ⟨bs, r1, r2⟩ := q
 dsimp only at hS0 ⊢
 refine Xa ?_
 refine Ze (Zt (Zs (Zr ?_)))
 refine Xm ?_
 refine x_turnf (v := Value.int .i64 0) (fun R' : RowS => rowOK 4 R' exE1.length (entsC exE1)) (fun R' => (bs, Obj.cells (serC exP r1 r2 R' exE1.length).toArray 61 (0, 0)) :: (rowO 85 R' ++ (rowO 3 r1 ++ (rowO 3 r2 ++ [(p1, Obj.cells [Value.int .i64 19723, Value.int .i64 30, Value.slice A1 2 c1, Value.slice A2 2 c2].toArray 26 (0, 0))])))) rfl rfl Tryz.func13 Zk rfl (fun w1 hw1 => by
  have h := c_Take (w0 := w) exP [] ⟨#[49, 50, 47, 49, 50, 45, 49, 51, 47, 49]⟩ 19790 hw1 (by simp) hL hS0 (by decide) (by unfold in64; decide) (by decide)
  rw [ex_t1] at h
  exact h.mono fun e w2 ⟨R', h1, h2, h3⟩ => ⟨h1, R', h2, h3⟩) ?_
 intro R1 hR1
 have hS48 := hS0.with hR1 (fun x hx => (ex_ok1 x hx).in)
 refine Xa ?_
 refine Ze (Zt (Zs (Zr ?_)))
 refine Xm ?_
 refine x_call (R := fun v wa wb => sliceRd tyIss (fun b => wa.heap.size ≤ b) wb v [⟨[12, 11], 19723⟩, ⟨[13, 2], 19850⟩]) rfl rfl rfl Tryz.func17 Zk rfl (fun w1 hw1 => by
  have h := c_Missing exP exE1 19850 w1 (hS48.rd (e := 61) (e1 := 3) (e2 := 85) hw1 Zh (fun q hq => by repeat (first | exact List.mem_append_left _ hq | exact hq | apply List.mem_append_right | apply List.Mem.tail)) (fun q hq => by repeat (first | exact List.mem_append_left _ hq | exact hq | apply List.mem_append_right | apply List.Mem.tail)) (fun q hq => by repeat (first | exact List.mem_append_left _ hq | exact hq | apply List.mem_append_right | apply List.Mem.tail))) ex_ok1 (by decide) (by unfold in64; decide) (hL.later (hw1.base (by simp)))
  rw [ex_miss] at h; exact h) ?_
 intro v50 wa50 wb50 hm50 hl50 hR50
 obtain ⟨Am, cm, rfl, _⟩ := id hR50
 refine Xa ?_
 refine Ze (Zt (Zs (Zr ?_)))
 refine Xm ?_
 refine x_turnf (v := Value.int .i64 0) (fun R' : RowS => rowOK 4 R' exE2.length (entsC exE2)) (fun R' => (bs, Obj.cells (serC exP r1 r2 R' exE2.length).toArray 61 (0, 0)) :: (rowO 85 R' ++ (rowO 3 r1 ++ (rowO 3 r2 ++ [(p1, Obj.cells [Value.int .i64 19723, Value.int .i64 30, Value.slice A1 2 c1, Value.slice A2 2 c2].toArray 26 (0, 0))])))) rfl rfl Tryz.func13 Zk rfl (fun w1 hw1 => by
  have h := c_Take (w0 := w) exP exE1 ⟨#[120, 49, 50, 47, 49, 49]⟩ 19800 hw1 (by simp) hL hS48 (by decide) (by unfold in64; decide) (by decide)
  rw [ex_t2] at h
  exact h.mono fun e w2 ⟨R', h1, h2, h3⟩ => ⟨h1, R', h2, h3⟩) ?_
 intro R2 hR2
 have hS52 := hS48.with hR2 (fun x hx => (ex_ok2 x hx).in)
 refine Xa ?_
 refine Ze (Zt (Zs (Zr ?_)))
 refine Xm ?_
 refine x_turnf (v := Value.int .i64 22) (fun R' : RowS => rowOK 4 R' exE2.length (entsC exE2)) (fun R' => (bs, Obj.cells (serC exP r1 r2 R' exE2.length).toArray 61 (0, 0)) :: (rowO 85 R' ++ (rowO 3 r1 ++ (rowO 3 r2 ++ [(p1, Obj.cells [Value.int .i64 19723, Value.int .i64 30, Value.slice A1 2 c1, Value.slice A2 2 c2].toArray 26 (0, 0))])))) rfl rfl Tryz.func13 Zk rfl (fun w1 hw1 => by
  have h := c_Take (w0 := w) exP exE2 ⟨#[49, 51, 47, 49]⟩ 19800 hw1 (by simp) hL hS52 (by decide) (by unfold in64; decide) (by decide)
  rw [ex_t3] at h
  exact h.mono fun e w2 ⟨R', h1, h2, h3⟩ => ⟨h1, R', h2, h3⟩) ?_
 intro R3 hR3
 have hS54 := hS52.with hR3 (fun x hx => (ex_ok2 x hx).in)
 refine Xa ?_
 refine Ze (Zt (Zs (Zr ?_)))
 refine Xm ?_
 refine Xb rfl (v_eql rfl rfl) fun b56 hb56 => ?_
 obtain rfl : b56 = true := hb56.trans (by decide)
 refine Xm ?_
 refine x_valg rfl rfl rfl rfl rfl (v_move rfl) ?_
 refine x_boolg rfl rfl rfl rfl rfl (v_eql rfl rfl) fun b59 hb59 => ?_
 obtain rfl : b59 = true := hb59.trans (by decide)
 refine Xv (v := Value.bool true) rfl (v_and (g := true) (v := true) rfl rfl) ?_
 refine Xm ?_
 refine x_valg rfl rfl rfl rfl rfl (v_move rfl) ?_
 refine x_boolg rfl rfl rfl rfl rfl (v_eql rfl rfl) fun b63 hb63 => ?_
 obtain rfl : b63 = true := hb63.trans (by decide)
 refine Xv (v := Value.bool true) rfl (v_and (g := true) (v := true) rfl rfl) ?_
 refine Xm ?_
 refine x_valg rfl rfl rfl rfl rfl (v_move rfl) ?_
 refine x_buildSlice_g (cs := [Value.int .i64 12, Value.int .i64 11]) rfl rfl rfl rfl rfl u22 sz3 zr3 rfl rfl rfl ?_
 intro p67
 refine x_callvg (v := .agg #[Value.slice (some ⟨p67, 0, none⟩) 2 2, Value.int .i64 19723]) rfl rfl rfl rfl rfl Tryz.func31 Zk rfl (fun w1 hw1 => c_lissue 19723 _ _ _ w1) ?_
 refine x_buildSlice_g (cs := [Value.int .i64 13, Value.int .i64 2]) rfl rfl rfl rfl rfl u22 sz3 zr3 rfl rfl rfl ?_
 intro p69
 refine x_callvg (v := .agg #[Value.slice (some ⟨p69, 0, none⟩) 2 2, Value.int .i64 19850]) rfl rfl rfl rfl rfl Tryz.func31 Zk rfl (fun w1 hw1 => c_lissue 19850 _ _ _ w1) ?_
 refine x_buildSlice_g (cs := isC [(p67, [12, 11], 19723), (p69, [13, 2], 19850)]) rfl rfl rfl rfl rfl u40 sz48 zr48 rfl rfl rfl ?_
 intro p71
 refine x_callbg rfl rfl rfl rfl rfl Tryz.func16 Zk rfl (fun w1 hw1 => c_SameI w1 (keep_new hR50 hw1 Zh hm50) (iss_row (e := 48) (e' := 3) hw1 (b := p71) [(p67, [12, 11], 19723), (p69, [13, 2], 19850)] Zh (by intro x hx; simp only [List.mem_cons, List.mem_nil_iff, or_false] at hx; rcases hx with rfl | rfl <;> (repeat (first | exact List.Mem.head _ | apply List.Mem.tail))) (by intro x hx; simp only [List.mem_cons, List.mem_nil_iff, or_false] at hx; rcases hx with rfl | rfl <;> exact ⟨by intro d hd; simp at hd; unfold in64; omega, by unfold in64; dsimp only; omega, by simp [maxLen]⟩) (by simp))) fun b72 hb72 => ?_
 obtain rfl : b72 = true := hb72.trans (decide_eq_true rfl)
 refine Xv (v := Value.bool true) rfl (v_and (g := true) (v := true) rfl rfl) ?_
 refine Xm ?_
 refine x_valg rfl rfl rfl rfl rfl (v_move rfl) ?_
 refine x_mem (own' := (bs, Obj.cells (serC exP r1 r2 R3 exE2.length).toArray 61 (0, 0)) :: (rowO 85 R3 ++ (rowO 3 r1 ++ (rowO 3 r2 ++ [(p1, Obj.cells [Value.int .i64 19723, Value.int .i64 30, Value.slice A1 2 c1, Value.slice A2 2 c2].toArray 26 (0, 0))])))) (ro' := [(w, fun _ => True)]) (fun _ h => h.less (by repeat (first | exact List.Sublist.refl _ | apply List.Sublist.cons)) (fun s hs => by rw [List.mem_singleton.1 hs]; simp)) ?_
 refine x_call_g (R := fun v wa wb => sliceRd tyIss (fun b => wa.heap.size ≤ b) wb v [⟨[12, 12], 19790⟩, ⟨[13, 1], 19790⟩]) rfl rfl rfl rfl rfl Tryz.func19 Zk rfl (fun w1 hw1 => by
  have h := c_Held exP exE2 w1 (hS54.rd (e := 61) (e1 := 3) (e2 := 85) hw1 Zh (fun q hq => by repeat (first | exact List.mem_append_left _ hq | exact hq | apply List.mem_append_right | apply List.Mem.tail)) (fun q hq => by repeat (first | exact List.mem_append_left _ hq | exact hq | apply List.mem_append_right | apply List.Mem.tail)) (fun q hq => by repeat (first | exact List.mem_append_left _ hq | exact hq | apply List.mem_append_right | apply List.Mem.tail))) (fun _ => ex_right) ex_ok2 (by decide)
  rw [ex_held] at h; exact h) ?_
 intro v76 wa76 wb76 hm76 hl76 hR76
 refine x_buildSlice_g (cs := [Value.int .i64 12, Value.int .i64 12]) rfl rfl rfl rfl rfl u22 sz3 zr3 rfl rfl rfl ?_
 intro p77
 refine x_callvg (v := .agg #[Value.slice (some ⟨p77, 0, none⟩) 2 2, Value.int .i64 19790]) rfl rfl rfl rfl rfl Tryz.func31 Zk rfl (fun w1 hw1 => c_lissue 19790 _ _ _ w1) ?_
 refine x_buildSlice_g (cs := [Value.int .i64 13, Value.int .i64 1]) rfl rfl rfl rfl rfl u22 sz3 zr3 rfl rfl rfl ?_
 intro p79
 refine x_callvg (v := .agg #[Value.slice (some ⟨p79, 0, none⟩) 2 2, Value.int .i64 19790]) rfl rfl rfl rfl rfl Tryz.func31 Zk rfl (fun w1 hw1 => c_lissue 19790 _ _ _ w1) ?_
 refine x_buildSlice_g (cs := isC [(p77, [12, 12], 19790), (p79, [13, 1], 19790)]) rfl rfl rfl rfl rfl u40 sz48 zr48 rfl rfl rfl ?_
 intro p81
 refine x_callbg rfl rfl rfl rfl rfl Tryz.func16 Zk rfl (fun w1 hw1 => c_SameI w1 (keep_new hR76 hw1 Zh hm76) (iss_row (e := 48) (e' := 3) hw1 (b := p81) [(p77, [12, 12], 19790), (p79, [13, 1], 19790)] Zh (by intro x hx; simp only [List.mem_cons, List.mem_nil_iff, or_false] at hx; rcases hx with rfl | rfl <;> (repeat (first | exact List.Mem.head _ | apply List.Mem.tail))) (by intro x hx; simp only [List.mem_cons, List.mem_nil_iff, or_false] at hx; rcases hx with rfl | rfl <;> exact ⟨by intro d hd; simp at hd; unfold in64; omega, by unfold in64; dsimp only; omega, by simp [maxLen]⟩) (by simp))) fun b82 hb82 => ?_
 obtain rfl : b82 = true := hb82.trans (decide_eq_true rfl)
 refine Xv (v := Value.bool true) rfl (v_and (g := true) (v := true) rfl rfl) ?_
 refine Xm ?_
 refine x_valg rfl rfl rfl rfl rfl (v_move rfl) ?_
 refine x_mem (own' := (bs, Obj.cells (serC exP r1 r2 R3 exE2.length).toArray 61 (0, 0)) :: (rowO 85 R3 ++ (rowO 3 r1 ++ (rowO 3 r2 ++ [(p1, Obj.cells [Value.int .i64 19723, Value.int .i64 30, Value.slice A1 2 c1, Value.slice A2 2 c2].toArray 26 (0, 0))])))) (ro' := [(w, fun _ => True)]) (fun _ h => h.less (by repeat (first | exact List.Sublist.refl _ | apply List.Sublist.cons)) (fun s hs => by rw [List.mem_singleton.1 hs]; simp)) ?_
 refine x_turng (v := Value.int .i64 32) (fun R' : RowS => rowOK 4 R' exE2.length (entsC exE2)) (fun R' => (bs, Obj.cells (serC exP r1 r2 R' exE2.length).toArray 61 (0, 0)) :: (rowO 85 R' ++ (rowO 3 r1 ++ (rowO 3 r2 ++ [(p1, Obj.cells [Value.int .i64 19723, Value.int .i64 30, Value.slice A1 2 c1, Value.slice A2 2 c2].toArray 26 (0, 0))])))) rfl rfl rfl rfl Tryz.func13 Zk rfl (fun w1 hw1 => by
  have h := c_Take (w0 := w) exP exE2 ⟨#[49, 50, 47, 49, 51]⟩ 19800 hw1 (by simp) hL hS54 (by decide) (by unfold in64; decide) (by decide)
  rw [ex_t4] at h
  exact h.mono fun e w2 ⟨R', h1, h2, h3⟩ => ⟨h1, R', h2, h3⟩) ?_
 intro R4 hR4
 have hS86 := hS54.with hR4 (fun x hx => (ex_ok2 x hx).in)
 refine x_boolg rfl rfl rfl rfl rfl (v_eql rfl rfl) fun b87 hb87 => ?_
 obtain rfl : b87 = true := hb87.trans (by decide)
 refine Xv (v := Value.bool true) rfl (v_and (g := true) (v := true) rfl rfl) ?_
 refine Xm ?_
 refine x_valg rfl rfl rfl rfl rfl (v_move rfl) ?_
 refine x_turng (v := Value.int .i64 11) (fun R' : RowS => rowOK 4 R' exE2.length (entsC exE2)) (fun R' => (bs, Obj.cells (serC exP r1 r2 R' exE2.length).toArray 61 (0, 0)) :: (rowO 85 R' ++ (rowO 3 r1 ++ (rowO 3 r2 ++ [(p1, Obj.cells [Value.int .i64 19723, Value.int .i64 30, Value.slice A1 2 c1, Value.slice A2 2 c2].toArray 26 (0, 0))])))) rfl rfl rfl rfl Tryz.func13 Zk rfl (fun w1 hw1 => by
  have h := c_Take (w0 := w) exP exE2 ⟨#[49, 50, 47, 48, 49, 49]⟩ 19800 hw1 (by simp) hL hS86 (by decide) (by unfold in64; decide) (by decide)
  rw [ex_t5] at h
  exact h.mono fun e w2 ⟨R', h1, h2, h3⟩ => ⟨h1, R', h2, h3⟩) ?_
 intro R5 hR5
 have hS91 := hS86.with hR5 (fun x hx => (ex_ok2 x hx).in)
 refine x_boolg rfl rfl rfl rfl rfl (v_eql rfl rfl) fun b92 hb92 => ?_
 obtain rfl : b92 = true := hb92.trans (by decide)
 refine Xv (v := Value.bool true) rfl (v_and (g := true) (v := true) rfl rfl) ?_
 refine Xa ?_
 refine Ze (Zt (w_ret ?_))
 exact ret1 rfl rfl (fun w' hm => ⟨rfl, hm.base (by simp)⟩)
open Go.RowKit Go.PK
open Go.RowKit Go.PK
noncomputable def predN (p : Pat) (m : Int) : Nat := if rightQ p then (min (max m 0) 10000).toNat else 0
open Go.RowKit Go.PK
open Go.RowKit Go.PK
theorem c_Dig1 (n : Int) (w : World) (h0 : 0 ≤ n) (hn : in64 n) (ih : 10 ≤ n → ∀ w1, Calls Tryz.prog 60 #[.int .i64 (n / 10)] w1 fun e w2 => e = .returned (.string (itoaS (n / 10))) ∧ Later w1 w2) :
  Calls Tryz.prog 60 #[.int .i64 n] w fun e w' => e = .returned (.string (itoaS n)) ∧ Later w w' := by
 refine enter (vs := [.int .i64 n]) Tryz.func60 rfl Tryz.ntmps60 rfl ?_
 refine Zs (Zr ?_)
 refine Xa ?_
 refine Ze (Zt (Zs (Zr ?_)))
 refine Xm ?_
 refine Xv (v := Value.int .i64 (n % 10)) rfl (by rw [← Int.tmod_eq_emod_of_nonneg h0]; exact v_rem rfl rfl (by decide)) ?_
 refine Xv (v := Value.int .i64 (48 + n % 10)) rfl (v_addi rfl rfl rfl (by omega)) ?_
 refine Xv (v := Value.int .u8 ((UInt8.ofNat (48 + (n % 10).toNat)).toNat : Nat)) rfl (by rw [← dig_c h0, Int.tmod_eq_emod_of_nonneg h0]; exact v_conv u3 u5 rfl) ?_
 refine x_buildSliceL rfl rfl rfl u45 sz5 zr5 rfl rfl rfl ?_
 intro p8
 refine Xv rfl (v_toStr [UInt8.ofNat (48 + (n % 10).toNat)] u45 u5 u9 rfl rfl (fun j hj => at_ownL (vs := [Value.int .u8 (UInt8.ofNat (48 + (n % 10).toNat)).toNat]) (.head _) (by match j, hj with | 0, _ => rfl))) ?_
 refine Xa ?_
 refine Ze (Zt (Zs (Zs (Zr ?_))))
 refine Xm ?_
 refine Xb rfl (v_lss rfl rfl) fun b11 hb11 => ?_
 refine Ze (Zt ?_)
 refine w_cond rfl (fun hc11 => ?_) (fun hc11 => ?_)
 ·simp only [hb11, Qz, ne_eq] at hc11
  refine Zs (Zr ?_)
  refine Xm ?_
  refine Xa ?_
  refine Ze (Zt (w_ret (t_ret ?_)))
  refine ret1 rfl rfl (fun w' hm => ⟨?_, hm.base (by simp)⟩)
  rw [itoaS_small h0 (by omega)]
 simp only [hb11, Qz, ne_eq] at hc11
 have h10 : 10 ≤ n := by omega
 refine w_skip (Zt (Zs (Zr ?_)))
 refine Xm ?_
 refine Xv rfl (v_quoi (c := n / 10) rfl rfl (by decide) (Int.tdiv_eq_ediv_of_nonneg h0) (by unfold in64 at hn; omega)) ?_
 refine x_callv rfl rfl rfl Tryz.func60 Zk rfl (fun w1 hw1 => ih h10 w1) ?_
 refine Xm ?_
 refine Xv rfl (v_sadd rfl rfl (by have := itoaS_size (n := n / 10) (by unfold in64 at hn ⊢; omega); rw [show (⟨#[UInt8.ofNat (48 + (n % 10).toNat)]⟩ : ByteArray).size = 1 from rfl]; omega)) ?_
 refine Xa ?_
 refine Ze (Zt (w_ret ?_))
 refine ret1 rfl rfl (fun w' hm => ⟨?_, hm.base (by simp)⟩)
 rw [itoaS_big h10]
theorem c_Dig : ∀ (m : Nat) (n : Int) (w : World), 0 ≤ n → in64 n → n.toNat ≤ m → Calls Tryz.prog 60 #[.int .i64 n] w fun e w' => e = .returned (.string (itoaS n)) ∧ Later w w'
 | 0, n, w, h0, hn, h => c_Dig1 n w h0 hn (fun h10 => by omega)
 | m + 1, n, w, h0, hn, h => c_Dig1 n w h0 hn (fun h10 w1 => c_Dig m (n / 10) w1 (by omega) (by unfold in64 at hn ⊢; omega) (by omega))
theorem c_Digits (n : Int) (w : World) (h0 : 0 ≤ n) (hn : in64 n) : Calls Tryz.prog 60 #[.int .i64 n] w fun e w' => e = .returned (.string (itoaS n)) ∧ Later w w' := c_Dig n.toNat n w h0 hn (Nat.le_refl _)
open Go.RowKit Go.PK
open Go.RowKit Go.PK
open Go.RowKit Go.PK
theorem wr_sz {p : Pat} (h : rightQ p) : (writeQ p).size ≤ 2000 := by
 have h1 := h.1.1
 have h2 := h.1.2.1
 have h3 := h.1.2.2.1
 have key : ∀ j, j < p.lv.length → in64 (p.lv.getD j 0) ∧ in64 (p.st.getD j 0) := fun j hj => by
  by_cases h0 : j = 0
  ·subst h0
   have a := h.1.2.2.2
   unfold in64; omega
  have := h.at (j := j) (by omega) hj
  unfold in64; omega
 have hz := wrTo_sz p (fun d hd => by obtain ⟨j, hj, rfl⟩ := List.getElem_of_mem hd; rw [← getD_lt hj]; exact (key j (by omega)).2) (fun d hd => by obtain ⟨j, hj, rfl⟩ := List.getElem_of_mem hd; rw [← getD_lt hj]; exact (key j hj).1) (by have := h.2.2.1; unfold in64; omega) h3 h1 (p.lv.length - 1) (by omega)
 unfold writeQ
 rw [if_pos h]
 omega
open Go.RowKit Go.PK
theorem c_pattern {v : Value} {l : List Int} {D : Nat → Prop} (w : World) (hl : sliceRd tyI D w v l) :
  Calls Tryz.prog 9 #[v] w fun e w' => ∃ v1 v2, e = .returned (.agg #[.int .i64 (patL l).first, .int .i64 (patL l).days, v1, v2]) ∧ Later w w' ∧ patRd (fun b => w.heap.size ≤ b) w' (patL l) v1 v2 := by
 obtain ⟨A0, c0, rfl, hlc0, hmx0, -⟩ := id hl
 refine enter (vs := [.slice A0 l.length c0]) Tryz.func9 rfl Tryz.ntmps9 rfl ?_
 refine Zs (Zr ?_)
 refine x_alloc rfl rfl rfl zr26 ?_
 intro p2
 refine Ze (Zt ?_)
 refine w_seq_cut (σ := Value × List Int × World) (fun x => sliceRd tyI (notOwn [(p2, Obj.cells #[Value.int .i64 0, Value.int .i64 0, Value.slice none 0 0, Value.slice none 0 0] 26 (0, 0))]) x.2.2 x.1 x.2.1 ∧ 2 ≤ x.2.1.length ∧ patL x.2.1 = patL l) (fun x => [(0, x.1), (2, Value.pointer (some ⟨p2, 0, none⟩))]) (fun x => [(p2, Obj.cells #[Value.int .i64 0, Value.int .i64 0, Value.slice none 0 0, Value.slice none 0 0] 26 (0, 0))]) (fun x => [(x.2.2, (notOwn [(p2, Obj.cells #[Value.int .i64 0, Value.int .i64 0, Value.slice none 0 0, Value.slice none 0 0] 26 (0, 0))])), (w, fun _ => True)]) ?_ ?_
 ·refine w_seq ?_
  refine Zr ?_
  refine Xm ?_
  refine Xv rfl (v_len_slice u22 rfl) ?_
  refine Xb rfl (v_lss rfl rfl) fun b5 hb5 => ?_
  refine Ze (Zt ?_)
  refine w_cond rfl (fun hc5 => ?_) (fun hc5 => ?_)
  ·simp only [hb5, Qz, ne_eq] at hc5
   refine Zr ?_
   refine x_buildSliceL (cs := [Value.int .i64 5, Value.int .i64 30]) rfl rfl rfl u22 sz3 zr3 rfl rfl rfl ?_
   intro p6
   refine Xa ?_
   refine Ze ?_
   refine s_fix [(p2, Obj.cells #[Value.int .i64 0, Value.int .i64 0, Value.slice none 0 0, Value.slice none 0 0] 26 (0, 0))] (List.sublist_cons_self _ _) (fun w0 hm0 => ?_)
   exact c_norm (Value.slice (some ⟨p6, 0, none⟩) 2 2, [5, 30], w0) ⟨rowI_rd (D := (notOwn [(p2, Obj.cells #[Value.int .i64 0, Value.int .i64 0, Value.slice none 0 0, Value.slice none 0 0] 26 (0, 0))])) (e := 3) (r := some (p6, [5, 30].map (Value.int .i64), 2)) (rowOK_lit rfl (by simp [maxLen])) rfl (by intro d hd; simp at hd; unfold in64; omega) hm0 (fun q hq => by rw [show q = _ from List.mem_singleton.1 hq]; exact .head _) (fun q hq => hm0.notIn (l1 := [_]) (List.Sublist.refl _) hq), by simp, by unfold patL; rw [if_neg (show ¬([5, 30] : List Int).length < 2 by decide), if_pos (by omega)]; rfl⟩ Zu (fun w1 h => h.less (List.Sublist.refl _) (fun s hs => by simp at hs ⊢; rcases hs with rfl | rfl <;> simp))
  simp only [hb5, Qz, ne_eq] at hc5
  refine w_skip ?_
  refine s_fix [(p2, Obj.cells #[Value.int .i64 0, Value.int .i64 0, Value.slice none 0 0, Value.slice none 0 0] 26 (0, 0))] (List.Sublist.refl _) (fun w0 hm0 => ?_)
  exact c_norm (Value.slice A0 l.length c0, l, w0) ⟨hl.keep (fun k hk hlt => ⟨fun q hq he => by have h9 := hm0.newer (w0 := w) (by simp) hq; omega, (hm0.base (by simp)).block k hlt⟩), by dsimp only; omega, rfl⟩ Zu (fun w1 h => h.less (List.Sublist.refl _) (fun s hs => by simp at hs ⊢; rcases hs with rfl | rfl <;> simp))
 rintro ⟨v', l', w0⟩ ⟨hl', h2, hpe⟩
 refine w_state ([(0, v'), (2, Value.pointer (some ⟨p2, 0, none⟩))]) ([(p2, Obj.cells #[Value.int .i64 0, Value.int .i64 0, Value.slice none 0 0, Value.slice none 0 0] 26 (0, 0))]) ([(w0, (notOwn [(p2, Obj.cells #[Value.int .i64 0, Value.int .i64 0, Value.slice none 0 0, Value.slice none 0 0] 26 (0, 0))])), (w, fun _ => True)]) ?_
 dsimp only at hl' h2 hpe
 obtain ⟨A, c, rfl, hlc, hmx, -⟩ := id hl'
 obtain ⟨ba, oa, hAa, hDa, hca, hia⟩ := int_at hl' (k := 0) (by omega)
 obtain ⟨bb, ob, hAb, hDb, hcb, hib⟩ := int_at hl' (k := 1) (by omega)
 obtain ⟨p, hP⟩ : ∃ p, madeP l'[0] l'[1] (l'.drop 2) = p := ⟨_, rfl⟩
 have hpp : p = patL l := by rw [← hpe, ← hP]; unfold patL; rw [if_neg (by omega), getD_lt (by omega), getD_lt (by omega)]
 refine Zs ?_
 refine rg_draw 9 [(true, 0), (true, 1), (true, 2), (true, 3), (true, 4), (true, 5), (true, 6), (true, 7), (false, 8)] Zk Zk ?_
 refine Xm ?_
 refine Xv rfl (v_indexAddr (j := 0) u22 sz3 (congrArg (fun A => some (Value.slice A l'.length c)) hAa) rfl Zo rfl) ?_
 refine Xv rfl (v_load u3 rfl rfl (at_ro (.head _) hDa hca)) ?_
 refine Xm ?_
 refine Xv rfl (v_indexAddr (j := 1) u22 sz3 (congrArg (fun A => some (Value.slice A l'.length c)) hAb) rfl Zo rfl) ?_
 refine Xv rfl (v_load u3 rfl rfl (at_ro (.head _) hDb hcb)) ?_
 refine Xm ?_
 refine Xv rfl (v_scut_from (i := 2) u22 sz3 rfl rfl h2 hlc) ?_
 refine x_call (R := fun v wa wb => ∃ v1 v2, v = .agg #[.int .i64 p.first, .int .i64 p.days, v1, v2] ∧ patRd (fun b => wa.heap.size ≤ b) wb p v1 v2) rfl rfl rfl Tryz.func32 Zk rfl (fun w1 hw1 => by
  have h := c_Made l'[0] l'[1] w1 hia hib ((sliceRd.dropN 2 h2 hl').keep (Kept.snap (s := (w0, (notOwn [(p2, Obj.cells #[Value.int .i64 0, Value.int .i64 0, Value.slice none 0 0, Value.slice none 0 0] 26 (0, 0))]))) hw1 (by simp) (fun k h _ => h)))
  rw [hP] at h
  exact h.mono fun e w2 ⟨v1, v2, h1, h2, h3⟩ => ⟨_, h1, h2, v1, v2, rfl, h3⟩) ?_
 intro v15 wa15 wb15 hm15 hl15 hR15
 obtain ⟨v1, v2, rfl, hp1, hp2, hpa, hpb⟩ := hR15
 obtain ⟨A1, c1, rfl, -⟩ := id hpa
 obtain ⟨A2, c2, rfl, -⟩ := id hpb
 refine x_store0 [] rfl rfl rfl rfl sz26 rfl rfl ?_
 refine Ze (Zt (w_ret ?_))
 refine retc rfl rfl (.head _) u26 rfl sz26 (fun w' hm => ?_)
 subst hpp
 exact ⟨_, _, rfl, hm.base (by simp), patRd.keep (⟨hp1, hp2, hpa, hpb⟩ : patRd (fun b => wa15.heap.size ≤ b) wb15 (patL l) _ _) (fun k hk hlt => ⟨Nat.le_trans (hm15.base (by simp)).size hk, Kept.snap (D' := fun _ => True) hm (s := (wb15, (notOwn [(p2, Obj.cells #[Value.int .i64 0, Value.int .i64 0, Value.slice none 0 0, Value.slice none 0 0] 26 (0, 0))]))) (by simp) (fun _ _ _ => trivial) k (fun q hq he => by have := hm15.lt hq; omega) hlt |>.2⟩)⟩
theorem c_Text {D : Nat → Prop} {v1 v2 : Value} (p : Pat) (k : Int) (w : World) (hp : patRd D w p v1 v2) (hq : rightQ p) (h0 : 0 ≤ k) (hk : k ≤ 2000000) :
  Calls Tryz.prog 36 #[.agg #[.int .i64 p.first, .int .i64 p.days, v1, v2], .int .i64 k] w fun e w' => e = .returned (.string (txN (numsP p k))) ∧ Later w w' := by
 obtain ⟨hp1, hp2, h1, h2⟩ := id hp
 obtain ⟨A1, c1, rfl, hlc1, hmx1, hB1⟩ := id h1
 obtain ⟨A2, c2, rfl, hlc2, hmx2, hB2⟩ := id h2
 obtain ⟨bL, oL, hL0, hLk⟩ := rd_blk h1
 obtain ⟨bS, oS, hS0, hSk⟩ := rd_blk h2
 refine enter (vs := [.agg #[.int .i64 p.first, .int .i64 p.days, .slice A1 p.lv.length c1, .slice A2 p.st.length c2], .int .i64 k]) Tryz.func36 rfl Tryz.ntmps36 rfl ?_
 refine Zs (Zr ?_)
 refine x_box rfl rfl rfl rfl ?_
 intro p2
 refine Xa ?_
 refine Ze (Zt (Zs (Zr ?_)))
 refine Xv rfl (v_load_blk (e := 26) (fz := (0, 0)) (cs := #[Value.int .i64 p.first, Value.int .i64 p.days, Value.slice A1 p.lv.length c1, Value.slice A2 p.st.length c2]) u26 rfl rfl (.head _) (by exact sz26)) ?_
 refine Xm ?_
 refine x_call (R := fun v wa wb => sliceRd tyI (fun b => wa.heap.size ≤ b) wb v (numsP p k)) rfl rfl rfl Tryz.func52 Zk rfl (fun w1 hw1 => c_Numbers p k w1 (hp.keep (Kept.later (hw1.base (by simp)))) hq h0 hk) fun v10 wa10 wb10 hm10 hl10 hR10 => ?_
 obtain ⟨A10, c10, rfl, -⟩ := id hR10
 obtain ⟨n1, n2, n3⟩ := nums_tx hq h0 hk
 have n4 := nums_in64 hq h0 hk
 refine Xa ?_
 refine Ze (Zt (Zs (Zr ?_)))
 refine Xv (v := Value.string (txTo (numsP p k) 0)) rfl (v_assign rfl) ?_
 refine Ze (Zt (Zs (Zs (Zr ?_))))
 refine Xa ?_
 refine Ze (Zt (w_block ?_))
 refine w_loop (σ := Nat) (fun i => i ≤ (numsP p k).length) (fun i => [(5, Value.slice A10 (numsP p k).length c10), (6, Value.string (txTo (numsP p k) i)), (7, Value.int .i64 (i : Nat))]) (fun i => [(p2, Obj.cells #[Value.int .i64 p.first, Value.int .i64 p.days, Value.slice A1 p.lv.length c1, Value.slice A2 p.st.length c2] 26)]) (fun i => [(wb10, (notOwn [(p2, Obj.cells #[Value.int .i64 p.first, Value.int .i64 p.days, Value.slice A1 p.lv.length c1, Value.slice A2 p.st.length c2] 26)])), (w, fun _ => True)]) (fun i => (numsP p k).length - i) (0) (Nat.zero_le _) (l_start Zu (fun _ h => h)) ?_
 rintro i hi
 refine w_state ([(5, Value.slice A10 (numsP p k).length c10), (6, Value.string (txTo (numsP p k) i)), (7, Value.int .i64 (i : Nat))]) ([(p2, Obj.cells #[Value.int .i64 p.first, Value.int .i64 p.days, Value.slice A1 p.lv.length c1, Value.slice A2 p.st.length c2] 26)]) ([(wb10, (notOwn [(p2, Obj.cells #[Value.int .i64 p.first, Value.int .i64 p.days, Value.slice A1 p.lv.length c1, Value.slice A2 p.st.length c2] 26)])), (w, fun _ => True)]) ?_
 refine Zs (Zs (Zr ?_))
 refine Xm ?_
 refine Xm ?_
 refine Xv rfl (v_len_slice u22 rfl) ?_
 refine Xb rfl (v_lss rfl rfl) fun b14 hb14 => ?_
 refine Ze (Zt ?_)
 refine w_cond rfl (fun hc14 => ?_) (fun hc14 => ?_)
 ·simp only [hb14, Qz, ne_eq] at hc14
  have hil : i < (numsP p k).length := by omega
  obtain ⟨b0, o0, hA0, hD0, hc0, hin⟩ := int_at hR10 hil
  have hz := txTo_sz n4 i (by omega)
  have hd0 := n3 _ (List.getElem_mem hil)
  have hz2 := itoaS_size (n4 _ (List.getElem_mem hil))
  refine w_skip (Zt (Zs (w_block (Zs (Zs (Zr ?_))))))
  refine Xm ?_
  refine Xb rfl (v_gtr rfl rfl) fun b18 hb18 => ?_
  refine Ze (Zt ?_)
  refine w_cond rfl (fun hc18 => ?_) (fun hc18 => ?_)
  ·simp only [hb18, Qz, ne_eq] at hc18
   refine Zr ?_
   refine Xm ?_
   refine Xv rfl (v_sadd (u := slash) rfl rfl (by rw [show slash.size = 1 from rfl]; omega)) ?_
   refine Xa ?_
   refine Ze (Zt (Zr ?_))
   refine Xm ?_
   refine Xm ?_
   refine Xm ?_
   refine Xv rfl (v_indexAddr u22 sz3 (congrArg (fun A => some (Value.slice A (numsP p k).length c10)) hA0) rfl Zo rfl) ?_
   refine Xv rfl (v_load u3 rfl rfl (at_ro (.head _) (fun q hq he => by have := hm10.lt hq; omega) (by rw [Nat.mul_one]; exact hc0))) ?_
   refine x_callv rfl rfl rfl Tryz.func60 Zk rfl (fun w1 hw1 => c_Digits _ w1 hd0.1 hin) ?_
   refine Xv rfl (v_sadd rfl rfl (by first | omega | (rw [ByteArray.size_append, show slash.size = 1 from rfl]; omega))) ?_
   refine Xv (v := Value.string (txTo (numsP p k) (i + 1))) rfl (by rw [txTo, if_pos (by omega), getD_lt hil]; exact v_assign rfl) ?_
   refine Ze (b_norm (Zt (Zr ?_)))
   refine Xm ?_
   refine Xv rfl (v_addi rfl rfl rfl Zo) ?_
   refine Xa ?_
   refine Ze ?_
   exact l_norm (i + 1) (show i + 1 ≤ (numsP p k).length by omega) (by omega) Zu (fun _ h => h)
  simp only [hb18, Qz, ne_eq] at hc18
  refine w_skip (Zt (Zr ?_))
  refine Xm ?_
  refine Xm ?_
  refine Xm ?_
  refine Xv rfl (v_indexAddr u22 sz3 (congrArg (fun A => some (Value.slice A (numsP p k).length c10)) hA0) rfl Zo rfl) ?_
  refine Xv rfl (v_load u3 rfl rfl (at_ro (.head _) (fun q hq he => by have := hm10.lt hq; omega) (by rw [Nat.mul_one]; exact hc0))) ?_
  refine x_callv rfl rfl rfl Tryz.func60 Zk rfl (fun w1 hw1 => c_Digits _ w1 hd0.1 hin) ?_
  refine Xv rfl (v_sadd rfl rfl (by first | omega | (rw [ByteArray.size_append, show slash.size = 1 from rfl]; omega))) ?_
  refine Xv (v := Value.string (txTo (numsP p k) (i + 1))) rfl (by rw [txTo, if_neg (by omega), getD_lt hil]; exact v_assign rfl) ?_
  refine Ze (b_norm (Zt (Zr ?_)))
  refine Xm ?_
  refine Xv rfl (v_addi rfl rfl rfl Zo) ?_
  refine Xa ?_
  refine Ze ?_
  exact l_norm (i + 1) (show i + 1 ≤ (numsP p k).length by omega) (by omega) Zu (fun _ h => h)
 simp only [hb14, Qz, ne_eq] at hc14
 obtain rfl : i = (numsP p k).length := by omega
 refine w_exit ?_
 refine t_exit ?_
 refine t_exit ?_
 refine b_hit ?_
 refine Zt (Zs (Zr ?_))
 refine Xm ?_
 refine Xa ?_
 refine Ze (Zt (w_ret ?_))
 refine ret1 rfl rfl (fun w' hm => ⟨?_, hm.base (by simp)⟩)
 rfl
open Go.RowKit Go.PK
theorem ap5 : (Tryz.prog.info? 5).map (fun j => (j.zero, j.size, j.bytes)) = some (some (.int .u8 0), 1, 1) := by kernel_rfl
theorem lies66 : liesAt Tryz.prog Tryz.prog.depth 130 ((#[Value.nilIface, Value.nilIface] : Array Value).size / Tryz.prog.cellsOf 130) 0 130 1 = true := by kernel_rfl
theorem c_cc0 {l2 : List (Nat × Obj)} {ro : List Snap} {p : Nat} {r : RowS} {bs : List UInt8} (w : World) (hm : Mem w ((bld2 130 5 p (.pointer none) r (bs.length)) ++ l2) ro) :
  Calls Tryz.prog 110 #[.pointer (some ⟨p, 0, none⟩)] w fun e w' => e = .returned (.tuple #[]) ∧ Mem w' ((bld2 130 5 p (.pointer (some ⟨p, 0, none⟩)) r (bs.length)) ++ l2) ro := by
 refine enter_in hm (vs := [.pointer (some ⟨p, 0, none⟩)]) Tryz.func110 rfl Tryz.ntmps110 rfl ?_
 refine Zs (Zr ?_)
 refine Xm ?_
 refine Xv rfl (v_nilCheck rfl) ?_
 refine Xv rfl (v_fieldAddr (off' := 0) u130 rfl sz128 (by decide) rfl rfl) ?_
 refine Xv rfl (v_load u128 rfl rfl (at_ownL (vs := [(.pointer none), rowV r bs.length]) (.head _) rfl)) ?_
 refine Xb rfl (v_pnil u128 rfl rfl) fun b6 hb6 => ?_
 refine Ze (Zt ?_)
 refine w_cond rfl (fun hc6 => ?_) (fun hc6 => ?_)
 ·skip
  refine Zr ?_
  refine Xm ?_
  refine Xm ?_
  refine Xv rfl (v_toUns (e := 130) (cs := #[(.pointer none), rowV r bs.length]) (fz := (0, 0)) (m := 1) u128 u170 sz130 rfl (.head _) (show 0 < 2 by decide)) ?_
  refine Xv rfl (v_noEsc Tryz.func133 Zk Zk Zk Zk rfl) ?_
  refine Xv rfl (v_fromUns (e := 130) (cs := #[(.pointer none), rowV r bs.length]) (fz := (0, 0)) u170 u128 ⟨_, (Option.map_eq_some_iff.1 sz130).choose_spec.1⟩ rfl (.head _) lies66) ?_
  refine Xv rfl (v_nilCheck rfl) ?_
  refine Xv rfl (v_fieldAddr (off' := 0) u130 rfl sz128 (by decide) rfl rfl) ?_
  refine x_store [] rfl rfl rfl rfl sz128 rfl (by show 1 ≤ 2; decide) ?_
  refine Ze ?_
  exact ret0 rfl (fun w' hm' => ⟨rfl, hm'⟩)
 rw [hb6] at hc6; cases hc6
theorem c_cc1 {l2 : List (Nat × Obj)} {ro : List Snap} {p : Nat} {r : RowS} {bs : List UInt8} (w : World) (hm : Mem w ((bld2 130 5 p (.pointer (some ⟨p, 0, none⟩)) r (bs.length)) ++ l2) ro) :
  Calls Tryz.prog 110 #[.pointer (some ⟨p, 0, none⟩)] w fun e w' => e = .returned (.tuple #[]) ∧ Mem w' ((bld2 130 5 p (.pointer (some ⟨p, 0, none⟩)) r (bs.length)) ++ l2) ro := by
 refine enter_in hm (vs := [.pointer (some ⟨p, 0, none⟩)]) Tryz.func110 rfl Tryz.ntmps110 rfl ?_
 refine Zs (Zr ?_)
 refine Xm ?_
 refine Xv rfl (v_nilCheck rfl) ?_
 refine Xv rfl (v_fieldAddr (off' := 0) u130 rfl sz128 (by decide) rfl rfl) ?_
 refine Xv rfl (v_load u128 rfl rfl (at_ownL (vs := [(.pointer (some ⟨p, 0, none⟩)), rowV r bs.length]) (.head _) rfl)) ?_
 refine Xb rfl (v_pnil u128 rfl rfl) fun b6 hb6 => ?_
 refine Ze (Zt ?_)
 refine w_cond rfl (fun hc6 => ?_) (fun hc6 => ?_)
 ·rw [hb6] at hc6; cases hc6
 skip
 refine Zs (Zr ?_)
 refine Xm ?_
 refine Xv rfl (v_nilCheck rfl) ?_
 refine Xv rfl (v_fieldAddr (off' := 0) u130 rfl sz128 (by decide) rfl rfl) ?_
 refine Xv rfl (v_load u128 rfl rfl (at_ownL (vs := [(.pointer (some ⟨p, 0, none⟩)), rowV r bs.length]) (.head _) rfl)) ?_
 refine Xm ?_
 refine Xb rfl (v_pne u128 (Option.map_eq_some_iff.1 sz130).choose_spec.1 rfl rfl) fun b19 hb19 => ?_
 refine Ze (Zt ?_)
 refine w_cond rfl (fun hc19 => ?_) (fun hc19 => ?_)
 ·rw [hb19] at hc19; cases hc19
 skip
 refine w_skip ?_
 exact ret0 rfl (fun w' hm' => ⟨rfl, hm'⟩)
theorem c_cc {l2 : List (Nat × Obj)} {ro : List Snap} {p : Nat} {pp : Value} {r : RowS} {bs : List UInt8} (w : World) (hm : Mem w ((bld2 130 5 p pp r (bs.length)) ++ l2) ro) (hp : ppOK p pp) :
  Calls Tryz.prog 110 #[.pointer (some ⟨p, 0, none⟩)] w fun e w' => e = .returned (.tuple #[]) ∧ Mem w' ((bld2 130 5 p (.pointer (some ⟨p, 0, none⟩)) r (bs.length)) ++ l2) ro := by
 rcases hp with rfl | rfl
 ·exact c_cc0 w hm
 exact c_cc1 w hm
theorem c_BS {l2 : List (Nat × Obj)} {ro : List Snap} {p : Nat} {pp : Value} {r : RowS} {bs : List UInt8} (w : World) (hm : Mem w ((bld2 130 5 p pp r (bs.length)) ++ l2) ro) (hp : ppOK p pp) (hr : rowOK 1 r bs.length (byC bs)) {B : Nat} (hB : ∀ s ∈ ro, s.1.heap.size ≤ B) (h2 : ∀ q ∈ l2, q.1 < B) (hb : ∀ q ∈ (bld2 130 5 p pp r (bs.length)), B ≤ q.1) (hBw : B ≤ w.heap.size) :
  Calls Tryz.prog 83 #[.pointer (some ⟨p, 0, none⟩)] w fun e w' => e = .returned (.string ⟨bs.toArray⟩) ∧ Mem w' l2 ro :=
 (Tryz.Builder_String_any_k B p bs w (bld2_is hm hp hr rfl hb) hBw).mono fun e w' ⟨h1, _, h3, _⟩ => ⟨h1, hm.after hB h2 h3⟩
theorem c_WS {l2 : List (Nat × Obj)} {ro : List Snap} {p : Nat} {pp : Value} {r : RowS} {bs : List UInt8} (w : World) (hm : Mem w ((bld2 130 5 p pp r (bs.length)) ++ l2) ro) (hp : ppOK p pp) (t : ByteArray) (hr : rowOK 1 r bs.length (byC bs)) (hl : bs.length ≤ 4000000000000) (ht : t.size ≤ 4000000000000) :
  Calls Tryz.prog 81 #[.pointer (some ⟨p, 0, none⟩), .string t] w fun e w' => e = .returned (.tuple #[.int .i64 (t.size : Nat), .nilIface]) ∧ ∃ r', rowOK 1 r' (bs ++ bl t).length (byC (bs ++ bl t)) ∧ Mem w' ((bld2 130 5 p (.pointer (some ⟨p, 0, none⟩)) r' ((bs ++ bl t).length)) ++ l2) ro := by
 refine enter_in hm (vs := [.pointer (some ⟨p, 0, none⟩), .string t]) Tryz.func81 rfl Tryz.ntmps81 rfl ?_
 refine Zs (Zr ?_)
 refine Xa ?_
 refine Xa ?_
 refine Ze (Zt (Zs (Zr ?_)))
 refine Xm ?_
 refine x_turnf (τ := Unit) (v := .tuple #[]) (fun _ => True) (fun _ => (bld2 130 5 p (.pointer (some ⟨p, 0, none⟩)) r (bs.length)) ++ l2) rfl rfl Tryz.func110 Zk rfl (fun w1 hw1 => by have hc := c_cc w1 hw1 hp; exact hc.mono fun e w2 h => ⟨h.1, (), trivial, h.2⟩) fun _ _ => ?_
 refine Ze (Zt (Zs (Zr ?_)))
 refine Xm ?_
 refine Xm ?_
 refine Xv rfl (v_nilCheck rfl) ?_
 refine Xv rfl (v_fieldAddr (off' := 1) u130 rfl sz45 (by decide) rfl rfl) ?_
 refine Xv rfl (v_load u45 rfl rfl (at_ownL (vs := [(.pointer (some ⟨p, 0, none⟩)), rowV r bs.length]) (.head _) rfl)) ?_
 refine Xm ?_
 refine x_append_str (e := 5) [(p, _)] (l2 := l2) r (len := bs.length) (xs := byC bs) rfl rfl rfl rfl rfl hr u45 u9 ap5 Zx (by omega) fun r' hr' => ?_
 refine Xv rfl (v_nilCheck rfl) ?_
 refine Xv rfl (v_fieldAddr (off' := 1) u130 rfl sz45 (by decide) rfl rfl) ?_
 refine x_store [] rfl rfl rfl rfl sz45 rfl (by show 2 ≤ 2; decide) ?_
 refine Ze (Zt (Zs (Zr ?_)))
 refine Xm ?_
 refine Xv rfl (v_len_str u9 rfl) ?_
 refine Xa ?_
 refine Xa ?_
 refine Ze (Zt (w_ret ?_))
 refine ret2 rfl rfl rfl (fun w' hm' => ⟨rfl, r', ?_, ?_⟩)
 ·rw [byC_app, List.length_append, bl_len]; exact hr'
 rw [List.length_append, bl_len]; exact hm'
theorem c_groups (n : Nat) (w : World) :
  Calls Tryz.prog 111 #[.int .u64 (n : Nat)] w fun e w' => ∃ Bs, e = .returned (.func (.func 134) #[] #[.pointer (some ⟨Bs, 0, none⟩)]) ∧ Later w w' ∧ Mem w' [(Bs, Obj.cells [Value.int .u64 ((n : Nat) : Int)].toArray 107 (0, 0))] [(w, fun _ => True)] := by
 refine enter (vs := [.int .u64 (n : Nat)]) Tryz.func111 rfl Tryz.ntmps111 rfl ?_
 refine Zs (Zr ?_)
 refine x_box rfl rfl rfl rfl ?_
 intro p1
 refine Xa ?_
 refine Ze (Zt (Zs (Zr ?_)))
 refine Xv rfl (v_func rfl) ?_
 refine Xa ?_
 refine Ze (Zt (w_ret ?_))
 exact ret1 rfl rfl (fun w' hm => ⟨p1, rfl, hm.base (by simp), hm⟩)
theorem retn {P : Program} {n : Nat} {l : List (Nat × Value)} {own : List (Nat × Obj)} {ro : List Snap} {R : Ending → World → Prop} {fn : Func} (hr : fn.results = #[]) (h : ∀ w', Mem w' own ro → R (.returned (.tuple #[])) w') : S (bodyPost P fn R .ret) n l own ro := ret0 hr h
set_option maxHeartbeats 1000000 in
theorem c_groups1 {w : World} {ro : List Snap} {L Bs : Nat} (X : RowS → Nat → List (Nat × Obj)) (n : Nat) (hn : n < 18446744073709551616) (hm : Mem w ((Bs, Obj.cells [Value.int .u64 ((n : Nat) : Int)].toArray 107 (0, 0)) :: X none 0) ro) (hY : ∀ (bs : List UInt8) (v : Nat) (r : RowS) (w1 : World), rowOK 1 r bs.length (byC bs) → bs.length ≤ 9 → v < 18446744073709551616 → Mem w1 ((Bs, Obj.cells [Value.int .u64 ((v / 128 : Nat) : Int)].toArray 107 (0, 0)) :: X r bs.length) ro → YieldAt Fence.wide (2 - 1) Tryz.prog L [Value.int .u8 (((UInt8.ofNat (v % 128)).toNat : Nat) : Int), Value.bool (decide (((v / 128 : Nat) : Int) > 0))].toArray w1 fun e w2 => e = .returned (.bool true) ∧ ∃ r', rowOK 1 r' (bs ++ [(if v / 128 > 0 then UInt8.ofNat (v % 128 + 128) else UInt8.ofNat (v % 128))]).length (byC (bs ++ [(if v / 128 > 0 then UInt8.ofNat (v % 128 + 128) else UInt8.ofNat (v % 128))])) ∧ Mem w2 ((Bs, Obj.cells [Value.int .u64 ((v / 128 : Nat) : Int)].toArray 107 (0, 0)) :: X r' (bs ++ [(if v / 128 > 0 then UInt8.ofNat (v % 128 + 128) else UInt8.ofNat (v % 128))]).length) ro) :
  Calls Tryz.prog 134 #[.func (.yield L) #[] #[], .pointer (some ⟨Bs, 0, none⟩)] w fun e w' => (∃ v, e = .returned v) ∧ ∃ r' v', rowOK 1 r' (numG n).length (byC (numG n)) ∧ Mem w' ((Bs, Obj.cells [Value.int .u64 ((v' : Nat) : Int)].toArray 107 (0, 0)) :: X r' (numG n).length) ro := by
 refine enter_in hm (vs := [.func (.yield L) #[] #[], .pointer (some ⟨Bs, 0, none⟩)]) Tryz.func134 rfl Tryz.ntmps134 rfl ?_
 refine w_block ?_
 refine w_loop (σ := List UInt8 × Nat × RowS) (fun x => x.1 ++ numG x.2.1 = numG n ∧ rowOK 1 x.2.2 x.1.length (byC x.1) ∧ x.2.1 < 18446744073709551616) (fun x => [(0, Value.func (.yield L) #[] #[]), (1, Value.pointer (some ⟨Bs, 0, none⟩))]) (fun x => (Bs, Obj.cells [Value.int .u64 ((x.2.1 : Nat) : Int)].toArray 107 (0, 0)) :: X x.2.2 x.1.length) (fun x => ro) (fun x => x.2.1) (([], n, none)) (⟨rfl, rowOK_nil, hn⟩) (l_start Zu (fun _ h => h)) ?_
 rintro ⟨bs, v, r⟩ ⟨hbs, hr, hv⟩
 refine w_state ([(0, Value.func (.yield L) #[] #[]), (1, Value.pointer (some ⟨Bs, 0, none⟩))]) ((Bs, Obj.cells [Value.int .u64 ((v : Nat) : Int)].toArray 107 (0, 0)) :: X r bs.length) (ro) ?_
 dsimp only at hbs hr hv
 have hln : bs.length ≤ 9 := by have h1 := congrArg List.length hbs; rw [List.length_append] at h1; have h2 := numG_ten hn; have h3 := numG_pos v; omega
 refine w_block (Zs (Zr ?_))
 refine Xv rfl (v_load u107 rfl rfl (at_ownL (vs := [Value.int .u64 ((v : Nat) : Int)]) (.head _) rfl)) ?_
 refine Xv (v := Value.int .u64 ((v % 128 : Nat) : Int)) rfl (v_remN (b := 128) rfl rfl (by decide)) ?_
 refine Xv rfl (v_convU8 u107 u5 rfl (by omega)) ?_
 refine Xa ?_
 refine Ze (Zt (Zs (Zr ?_)))
 refine Xv rfl (v_load u107 rfl rfl (at_ownL (vs := [Value.int .u64 ((v : Nat) : Int)]) (.head _) rfl)) ?_
 refine Xv (v := Value.int .u64 ((v / 128 : Nat) : Int)) rfl (v_shr rfl rfl (by decide) (by show (v : Int) / 128 = _; omega)) ?_
 refine x_store (cs := [Value.int .u64 ((v : Nat) : Int)]) (off := 0) (e := 107) (l2 := X r bs.length) [] rfl rfl rfl rfl sz107 rfl (by show 1 ≤ 1; decide) ?_
 refine Ze (Zt (Zs ?_))
 refine rg_yield 4 2 Zk rfl ?_
 refine Xm ?_
 refine Xm ?_
 refine Xv rfl (v_load u107 rfl rfl (at_ownL (vs := [Value.int .u64 ((v / 128 : Nat) : Int)]) (.head _) rfl)) ?_
 refine Xb rfl (v_gtr rfl rfl) fun b12 hb12 => ?_
 refine Ze ?_
 subst hb12
 refine s_yield (fun r' : RowS => rowOK 1 r' (bs ++ [(if v / 128 > 0 then UInt8.ofNat (v % 128 + 128) else UInt8.ofNat (v % 128))]).length (byC (bs ++ [(if v / 128 > 0 then UInt8.ofNat (v % 128 + 128) else UInt8.ofNat (v % 128))]))) (fun r' => (Bs, Obj.cells [Value.int .u64 ((v / 128 : Nat) : Int)].toArray 107 (0, 0)) :: X r' (bs ++ [(if v / 128 > 0 then UInt8.ofNat (v % 128 + 128) else UInt8.ofNat (v % 128))]).length) rfl rfl rfl rfl rfl (fun w1 hw1 => (hY bs v r w1 hr hln hv hw1).mono fun e w2 h => h) fun r' hr' => ?_
 refine s_rest Zk rfl ?_
 refine Xv (v := Value.bool false) rfl (v_not (b := true) rfl) ?_
 refine Xm ?_
 refine x_valg rfl rfl rfl rfl rfl (v_load u107 rfl rfl (at_ownL (vs := [Value.int .u64 ((v / 128 : Nat) : Int)]) (.head _) rfl)) ?_
 refine x_boolg rfl rfl rfl rfl rfl (v_eql rfl rfl) fun b17 hb17 => ?_
 refine Xb rfl (v_or (g := false) rfl rfl) fun b18 hb18 => ?_
 refine Ze (Zt ?_)
 refine w_cond rfl (fun hc18 => ?_) (fun hc18 => ?_)
 ·have hv0 : v / 128 = 0 := by rw [hb18, hb17] at hc18; simp at hc18; omega
  refine w_ret (b_ret (t_ret (b_ret ?_)))
  have hv1 : v < 128 := by omega
  rw [numG_small hv1] at hbs
  have e9 : (if v / 128 > 0 then UInt8.ofNat (v % 128 + 128) else UInt8.ofNat (v % 128)) = UInt8.ofNat v := by rw [if_neg (by omega), Nat.mod_eq_of_lt hv1]
  rw [e9, hbs] at hr'
  refine retn rfl (fun w' hm => ⟨⟨_, rfl⟩, r', v / 128, hr', ?_⟩)
  rw [e9, hbs] at hm
  exact hm
 have hv0 : ¬v / 128 = 0 := by rw [hb18, hb17] at hc18; simp at hc18; omega
 refine w_skip (b_norm ?_)
 have hv1 : ¬v < 128 := by omega
 rw [numG_big hv1] at hbs
 have e9 : (if v / 128 > 0 then UInt8.ofNat (v % 128 + 128) else UInt8.ofNat (v % 128)) = UInt8.ofNat (v % 128 + 128) := if_pos (by omega)
 exact l_norm (x := (bs, v, r)) (μ := fun q : List UInt8 × Nat × RowS => q.2.1) (bs ++ [UInt8.ofNat (v % 128 + 128)], v / 128, r') ⟨by dsimp only; rw [← hbs, List.append_assoc]; rfl, by rw [← e9]; exact hr', by dsimp only; omega⟩ (by simp only; omega) Zu (fun _ h => by rw [e9] at h; exact h)
open Go.RowKit Go.PK
set_option maxHeartbeats 1000000 in
theorem c_Num (n : Nat) (w : World) (hn : n < 18446744073709551616) :
  Calls Tryz.prog 82 #[.int .u64 (n : Nat)] w fun e w' => e = .returned (.string ⟨(numG n).toArray⟩) ∧ Later w w' := by
 have hT := numG_ten hn
 refine enterM (vs := [.int .u64 (n : Nat)]) 2 Tryz.func82 rfl Tryz.ntmps82 rfl ?_
 refine Zs (Zr ?_)
 refine Xa ?_
 refine Ze (Zt (Zs (Zr ?_)))
 refine x_alloc rfl rfl rfl zr45 ?_
 intro p3
 refine Ze (Zt (Zs (Zs (Zr ?_))))
 refine Xm ?_
 refine x_own (τ := Nat) (fun Bs => .func (.func 134) #[] #[.pointer (some ⟨Bs, 0, none⟩)]) (fun _ => True) (fun Bs => (Bs, Obj.cells [Value.int .u64 ((n : Nat) : Int)].toArray 107 (0, 0)) :: [(p3, Obj.cells [rowV none 0].toArray 45 (0, 0))]) rfl rfl rfl Tryz.func111 Zk rfl (fun w1 hw1 => (c_groups n w1).mono fun e w2 ⟨Bs, h1, h2, h3⟩ => ⟨Bs, h1, h2, trivial, (hw1.join2 h3).to (by simp; rfl)⟩) fun Bs _ => ?_
 refine Ze (Zt (w_block ?_))
 refine w_range (fun x : RowS × Nat => rowOK 1 x.1 (numG n).length (byC (numG n))) (fun x => (Bs, Obj.cells [Value.int .u64 ((x.2 : Nat) : Int)].toArray 107 (0, 0)) :: (p3, Obj.cells [rowV x.1 (numG n).length].toArray 45 (0, 0)) :: rowO 5 x.1) rfl (enters_of Tryz.func134 Zk rfl) ?_ ?_
 ·intro L D fn tmps w1 hfh hm1
  refine (c_groups1 (Bs := Bs) (L := L) (fun r k => (L, .loop (recL .ready fn tmps #[8, 9] _ _ D)) :: (D, .deferred (some [])) :: (p3, Obj.cells [rowV r k].toArray 45 (0, 0)) :: rowO 5 r) n hn (hm1.perm (((List.Perm.swap _ _ _).cons _).trans (List.Perm.swap _ _ _))) ?_).mono ?_
  ·intro bs v r w2 hr hln hv hm2
   refine yield_two (m := 1) (hm2.perm (List.Perm.swap _ _ _)) hfh rfl rfl ?_
   refine wi_seq ?_
   refine ri_text (lets_round _) Zk ?_
   refine Xa ?_
   refine Ze ?_
   refine ti_norm ?_
   refine ri_text (lets_round _) Zk ?_
   refine Xa ?_
   refine Ze ?_
   refine t_k ?_
   refine s_begin rfl ?_
   refine wi_block ?_
   refine wi_seq ?_
   refine wi_seq ?_
   refine ri_text (lets_round _) Zk ?_
   refine Xm ?_
   refine Ze ?_
   refine ti_norm ?_
   refine wi_cond rfl (fun hc => ?_) (fun hc => ?_)
   ·have hv0 := of_decide_eq_true hc
    refine ri_text (lets_round _) Zk ?_
    refine Xm ?_
    refine Xv (v := Value.int .u8 (((UInt8.ofNat (v % 128 + 128)).toNat : Nat) : Int)) rfl (by rw [← or128 (Nat.mod_lt v (by decide))]; exact v_orK rfl rfl) ?_
    refine Xa ?_
    refine Ze ?_
    refine ti_norm ?_
    refine ri_text (lets_round _) Zk ?_
    refine Xv rfl (v_load u45 rfl rfl (at_ownL (vs := [rowV r bs.length]) Zh rfl)) ?_
    refine Xm ?_
    refine x_buildSliceL (cs := byC [UInt8.ofNat (v % 128 + 128)]) rfl rfl rfl u45 sz5 zr5 rfl rfl rfl ?_
    intro p15
    refine x_append (e := 5) [(p15, _), (L, _), (Bs, _), (D, _), (p3, _)] (l2 := []) r (len := bs.length) (xs := byC bs) rfl rfl rfl rfl (by simp only [List.append_nil]; rfl) hr u45 ap5 rfl rfl (m := 1) (news := byC [UInt8.ofNat (v % 128 + 128)]) (fun i hi => at_ownL (vs := byC [UInt8.ofNat (v % 128 + 128)]) (.head _) (by rw [Nat.zero_add]; exact List.getElem?_eq_getElem hi)) rfl Zx (by omega) fun r' hr' => ?_
    rw [List.append_nil]
    refine x_store (cs := [rowV r bs.length]) (off := 0) (e := 45) (l2 := rowO 5 r') [(p15, _), (L, _), (Bs, _), (D, _)] rfl rfl rfl rfl sz45 rfl (by show 1 ≤ 1; decide) ?_
    refine x_mem (fun _ h => h.less (List.sublist_cons_self _ _) (fun _ h => h)) ?_
    refine Ze (b_norm ?_)
    refine s_round (fun w' hm => ⟨rfl, r', ?_, ?_⟩)
    ·rw [(if_pos (show v / 128 > 0 by omega) : (if v / 128 > 0 then UInt8.ofNat (v % 128 + 128) else UInt8.ofNat (v % 128)) = _), byC_app, List.length_append]; exact hr'
    rw [(if_pos (show v / 128 > 0 by omega) : (if v / 128 > 0 then UInt8.ofNat (v % 128 + 128) else UInt8.ofNat (v % 128)) = _), List.length_append]; exact hm.perm (List.Perm.swap _ _ _)
   have hv0 := of_decide_eq_false hc
   refine wi_skip ?_
   refine ti_norm ?_
   refine ri_text (lets_round _) Zk ?_
   refine Xv rfl (v_load u45 rfl rfl (at_ownL (vs := [rowV r bs.length]) Zh rfl)) ?_
   refine Xm ?_
   refine x_buildSliceL (cs := byC [UInt8.ofNat (v % 128)]) rfl rfl rfl u45 sz5 zr5 rfl rfl rfl ?_
   intro p15
   refine x_append (e := 5) [(p15, _), (L, _), (Bs, _), (D, _), (p3, _)] (l2 := []) r (len := bs.length) (xs := byC bs) rfl rfl rfl rfl (by simp only [List.append_nil]; rfl) hr u45 ap5 rfl rfl (m := 1) (news := byC [UInt8.ofNat (v % 128)]) (fun i hi => at_ownL (vs := byC [UInt8.ofNat (v % 128)]) (.head _) (by rw [Nat.zero_add]; exact List.getElem?_eq_getElem hi)) rfl Zx (by omega) fun r' hr' => ?_
   rw [List.append_nil]
   refine x_store (cs := [rowV r bs.length]) (off := 0) (e := 45) (l2 := rowO 5 r') [(p15, _), (L, _), (Bs, _), (D, _)] rfl rfl rfl rfl sz45 rfl (by show 1 ≤ 1; decide) ?_
   refine x_mem (fun _ h => h.less (List.sublist_cons_self _ _) (fun _ h => h)) ?_
   refine Ze (b_norm ?_)
   refine s_round (fun w' hm => ⟨rfl, r', ?_, ?_⟩)
   ·rw [(if_neg (show ¬v / 128 > 0 by omega) : (if v / 128 > 0 then UInt8.ofNat (v % 128 + 128) else UInt8.ofNat (v % 128)) = _), byC_app, List.length_append]; exact hr'
   rw [(if_neg (show ¬v / 128 > 0 by omega) : (if v / 128 > 0 then UInt8.ofNat (v % 128 + 128) else UInt8.ofNat (v % 128)) = _), List.length_append]; exact hm.perm (List.Perm.swap _ _ _)
  rintro e w2 ⟨h1, r', v', h2, h3⟩
  exact ⟨h1, (r', v'), h2, h3.perm ((List.Perm.swap _ _ _).trans ((List.Perm.swap _ _ _).cons _))⟩
 rintro D ⟨r, v'⟩ hr
 dsimp only at hr ⊢
 refine sd_block ?_
 refine sd_then ?_
 refine sd_seq ?_
 refine sd_region ?_
 refine sdl_val rfl (v_load u45 rfl rfl (at_ownL (vs := [rowV r (numG n).length]) Zh rfl)) ?_
 refine sdl_val rfl (v_toStrR (E := 5) (numG n) u45 u5 u9 rfl hr rfl (fun q hq => .tail _ (.tail _ (.tail _ hq)))) ?_
 refine sdl_val rfl (v_assign rfl) ?_
 refine sdl_end ?_
 refine sd_then ?_
 refine sd_ret ?_
 exact ret1M rfl rfl (fun w' hm => ⟨rfl, hm.base (by simp)⟩)
open Go.RowKit Go.PK
theorem c_Sgn (n : Int) (w : World) (h : in64 n) :
  Calls Tryz.prog 84 #[.int .i64 n] w fun e w' => e = .returned (.int .u64 (sgn n : Nat)) ∧ Later w w' := by
 refine enter (vs := [.int .i64 n]) Tryz.func84 rfl Tryz.ntmps84 rfl ?_
 refine Zs (Zr ?_)
 refine Xa ?_
 refine Ze (Zt (Zs (Zr ?_)))
 refine Xm ?_
 refine Xv rfl (v_conv u3 u107 rfl) ?_
 refine Xv (v := Value.int .u64 (IntKind.u64.wrap (IntKind.u64.wrap n * 2))) rfl (v_shl rfl rfl (by decide) rfl) ?_
 refine Xm ?_
 refine Xv (v := Value.int .i64 (n / 9223372036854775808)) rfl (v_shr rfl rfl (by decide) rfl) ?_
 refine Xv rfl (v_conv u3 u107 rfl) ?_
 refine Xv (v := Value.int .u64 (sgn n : Nat)) rfl (by rw [← xor_sgn h]; exact v_xorK rfl rfl) ?_
 refine Xa ?_
 refine Ze (Zt (w_ret ?_))
 refine ret1 rfl rfl (fun w' hm => ⟨?_, hm.base (by simp)⟩)
 rfl
theorem c_Ints {D : Nat → Prop} {v : Value} {l : List Int} (w : World) (h : sliceRd tyI D w v l) (hll : l.length ≤ 1000000) :
  Calls Tryz.prog 55 #[v] w fun e w' => e = .returned (.string ⟨(intsG l).toArray⟩) ∧ Later w w' := by
 obtain ⟨A0, c0, rfl, hlc, hmx, -⟩ := id h
 have hin : ∀ n ∈ l, -9223372036854775808 ≤ n ∧ n ≤ 9223372036854775807 := rd_in h
 refine enter (vs := [Value.slice A0 l.length c0]) Tryz.func55 rfl Tryz.ntmps55 rfl ?_
 refine Zs (Zr ?_)
 refine Xa ?_
 refine Ze (Zt (Zs (Zr ?_)))
 refine x_alloc rfl rfl rfl zr130 ?_
 intro p3
 refine Ze (Zt (Zs (Zr ?_)))
 refine Xm ?_
 refine Xv rfl (v_len_slice u22 rfl) ?_
 refine Xv rfl (v_convE (c := ((l.length : Nat) : Int)) u3 u107 rfl (u64_wrap (by omega))) ?_
 refine x_callv (v := Value.string ⟨(numG (l.length)).toArray⟩) rfl rfl rfl Tryz.func82 Zk rfl (fun w1 hw1 => c_Num _ w1 (by omega)) ?_
 refine x_turnf (τ := RowS) (v := .tuple #[.int .i64 ((numG l.length).length : Nat), .nilIface]) (fun r' => rowOK 1 r' ([] ++ numG l.length).length (byC ([] ++ numG l.length))) (fun r' => (bld2 130 5 p3 (.pointer (some ⟨p3, 0, none⟩)) r' (([] ++ numG l.length).length)) ++ []) rfl rfl Tryz.func81 Zk rfl (fun w1 hw1 => by
  have h := c_WS (l2 := []) (bs := []) (r := none) (pp := (.pointer none)) w1 (hw1.to (by first | rfl | simp [bld2, rowO])) (p := p3) (.inl rfl) ⟨(numG l.length).toArray⟩ rowOK_nil (by have := numG_ten (n := l.length) (by omega); (try show (0 : Nat) ≤ 4000000000000); omega) (by rw [mk_size]; have := numG_ten (n := l.length) (by omega); (try show (0 : Nat) ≤ 4000000000000); omega)
  rw [bl_mk, mk_size] at h
  exact h.mono fun e w2 ⟨h1, r', h2, h3⟩ => ⟨h1, r', h2, h3⟩) ?_
 intro r10 hr10
 rw [List.nil_append] at hr10
 refine Ze (Zt (Zs (Zs (Zr ?_))))
 refine Xm ?_
 refine Xv rfl (v_len_slice u22 rfl) ?_
 refine Xm ?_
 refine Ze (Zt (w_block ?_))
 refine w_loop (σ := Nat × RowS) (fun x => x.1 ≤ l.length ∧ rowOK 1 x.2 (intsT l x.1).length (byC (intsT l x.1))) (fun x => [(3, Value.pointer (some ⟨p3, 0, none⟩)), (11, Value.slice A0 l.length c0), (12, Value.int .i64 (l.length : Nat)), (13, Value.int .i64 (x.1 : Nat))]) (fun x => (bld2 130 5 p3 (.pointer (some ⟨p3, 0, none⟩)) x.2 ((intsT l x.1).length)) ++ []) (fun x => [(w, fun _ => True)]) (fun x => l.length - x.1) ((0, r10)) (⟨Nat.zero_le _, by dsimp only; rw [intsT_zero]; exact hr10⟩) (l_start Zu (fun _ h => by rw [intsT_zero]; exact h)) ?_
 rintro ⟨k, r⟩ ⟨hk, hr⟩
 refine w_state ([(3, Value.pointer (some ⟨p3, 0, none⟩)), (11, Value.slice A0 l.length c0), (12, Value.int .i64 (l.length : Nat)), (13, Value.int .i64 (k : Nat))]) ((bld2 130 5 p3 (.pointer (some ⟨p3, 0, none⟩)) r ((intsT l k).length)) ++ []) ([(w, fun _ => True)]) ?_
 dsimp only at hk hr
 refine Zs (Zr ?_)
 refine Xb rfl (v_lss rfl rfl) fun b14 hb14 => ?_
 refine Ze (Zt (Zs ?_))
 refine w_cond rfl (fun hc14 => ?_) (fun hc14 => ?_)
 ·simp only [hb14, Qz, ne_eq] at hc14
  have hkl : k < l.length := by omega
  obtain ⟨b0, o0, hA0, _, hc0, hk9⟩ := int_at h hkl
  have hz := intsT_len (by omega) hin k (by omega)
  have hz2 := numG_ten (sgn_lt hk9)
  refine w_skip (Zt (Zs (w_block (Zs (Zr ?_)))))
  refine Xv rfl (v_indexAddr u22 sz3 (congrArg (fun A => some (Value.slice A l.length c0)) hA0) rfl Zo rfl) ?_
  refine Xv rfl (v_load u3 rfl rfl (at_ro (.head _) trivial (by rw [Nat.mul_one]; exact hc0))) ?_
  refine Xa ?_
  refine Ze (Zt (Zr ?_))
  refine Xm ?_
  refine x_callv (v := Value.int .u64 ((sgn l[k] : Nat) : Int)) rfl rfl rfl Tryz.func84 Zk rfl (fun w1 hw1 => c_Sgn _ w1 hk9) ?_
  refine x_callv (v := Value.string ⟨(numG (sgn l[k])).toArray⟩) rfl rfl rfl Tryz.func82 Zk rfl (fun w1 hw1 => c_Num _ w1 (sgn_lt hk9)) ?_
  refine x_turnf (τ := RowS) (v := .tuple #[.int .i64 ((numG (sgn l[k])).length : Nat), .nilIface]) (fun r' => rowOK 1 r' ((intsT l k) ++ numG (sgn l[k])).length (byC ((intsT l k) ++ numG (sgn l[k])))) (fun r' => (bld2 130 5 p3 (.pointer (some ⟨p3, 0, none⟩)) r' (((intsT l k) ++ numG (sgn l[k])).length)) ++ []) rfl rfl Tryz.func81 Zk rfl (fun w1 hw1 => by
   have h := c_WS (l2 := []) (bs := (intsT l k)) (r := r) (pp := (.pointer (some ⟨p3, 0, none⟩))) w1 (hw1.to (by first | rfl | simp [bld2, rowO])) (p := p3) (.inr rfl) ⟨(numG (sgn l[k])).toArray⟩ hr (by omega) (by rw [mk_size]; omega)
   rw [bl_mk, mk_size] at h
   exact h.mono fun e w2 ⟨h1, r', h2, h3⟩ => ⟨h1, r', h2, h3⟩) ?_
  intro r20 hr20
  refine Ze (b_norm (Zt (Zr ?_)))
  refine Xv rfl (v_addi rfl rfl rfl Zo) ?_
  refine Xm ?_
  refine Ze ?_
  exact l_norm (x := (k, r)) (μ := fun q : Nat × RowS => l.length - q.1) (k + 1, r20) ⟨by dsimp only; omega, by dsimp only; rw [intsT_succ hkl]; exact hr20⟩ (by simp only; omega) Zu (fun _ h => by rw [intsT_succ hkl]; exact h)
 simp only [hb14, Qz, ne_eq] at hc14
 refine w_exit ?_
 refine t_exit ?_
 refine t_exit ?_
 refine b_hit ?_
 refine Zt (Zs (Zr ?_))
 obtain rfl : k = l.length := by omega
 rw [intsT_all] at hr
 refine x_turnf (τ := Unit) (v := .string ⟨(intsG l).toArray⟩) (fun _ => True) (fun _ => []) rfl rfl Tryz.func83 Zk rfl (fun w1 hw1 => (c_BS (l2 := []) (bs := intsG l) w1 (hw1.to (by rw [intsT_all])) (p := p3) (.inr rfl) hr (B := w.heap.size) (fun q hq => by rw [List.mem_singleton.1 hq]; exact Nat.le_refl _) (fun q hq => by cases hq) (fun q hq => hw1.newer (by simp) (by rw [intsT_all]; exact List.mem_append_left _ hq)) (hw1.base (by simp)).size).mono fun e w2 h => ⟨h.1, (), trivial, h.2⟩) fun _ _ => ?_
 refine Xa ?_
 refine Ze (Zt (w_ret ?_))
 refine ret1 rfl rfl (fun w' hm => ⟨?_, hm.base (by simp)⟩)
 rfl
theorem c_Pack {D : Nat → Prop} {v : Value} {l : List ByteArray} (w : World) (h : sliceRd tyStr D w v l) (hll : l.length ≤ 1000000) (hsz : ∀ s ∈ l, s.size ≤ 2000000) :
  Calls Tryz.prog 53 #[v] w fun e w' => e = .returned (.string ⟨(packG l).toArray⟩) ∧ Later w w' := by
 obtain ⟨A0, c0, rfl, hlc, hmx, -⟩ := id h
 refine enter (vs := [Value.slice A0 l.length c0]) Tryz.func53 rfl Tryz.ntmps53 rfl ?_
 refine Zs (Zr ?_)
 refine Xa ?_
 refine Ze (Zt (Zs (Zr ?_)))
 refine x_alloc rfl rfl rfl zr130 ?_
 intro p3
 refine Ze (Zt (Zs (Zr ?_)))
 refine Xm ?_
 refine Xv rfl (v_len_slice u55 rfl) ?_
 refine Xv rfl (v_convE (c := ((l.length : Nat) : Int)) u3 u107 rfl (u64_wrap (by omega))) ?_
 refine x_callv (v := Value.string ⟨(numG (l.length)).toArray⟩) rfl rfl rfl Tryz.func82 Zk rfl (fun w1 hw1 => c_Num _ w1 (by omega)) ?_
 refine x_turnf (τ := RowS) (v := .tuple #[.int .i64 ((numG l.length).length : Nat), .nilIface]) (fun r' => rowOK 1 r' ([] ++ numG l.length).length (byC ([] ++ numG l.length))) (fun r' => (bld2 130 5 p3 (.pointer (some ⟨p3, 0, none⟩)) r' (([] ++ numG l.length).length)) ++ []) rfl rfl Tryz.func81 Zk rfl (fun w1 hw1 => by
  have h := c_WS (l2 := []) (bs := []) (r := none) (pp := (.pointer none)) w1 (hw1.to (by first | rfl | simp [bld2, rowO])) (p := p3) (.inl rfl) ⟨(numG l.length).toArray⟩ rowOK_nil (by have := numG_ten (n := l.length) (by omega); (try show (0 : Nat) ≤ 4000000000000); omega) (by rw [mk_size]; have := numG_ten (n := l.length) (by omega); (try show (0 : Nat) ≤ 4000000000000); omega)
  rw [bl_mk, mk_size] at h
  exact h.mono fun e w2 ⟨h1, r', h2, h3⟩ => ⟨h1, r', h2, h3⟩) ?_
 intro r10 hr10
 rw [List.nil_append] at hr10
 refine Ze (Zt (Zs (Zs (Zr ?_))))
 refine Xm ?_
 refine Xv rfl (v_len_slice u55 rfl) ?_
 refine Xm ?_
 refine Ze (Zt (w_block ?_))
 refine w_loop (σ := Nat × RowS) (fun x => x.1 ≤ l.length ∧ rowOK 1 x.2 (packT l x.1).length (byC (packT l x.1))) (fun x => [(3, Value.pointer (some ⟨p3, 0, none⟩)), (11, Value.slice A0 l.length c0), (12, Value.int .i64 (l.length : Nat)), (13, Value.int .i64 (x.1 : Nat))]) (fun x => (bld2 130 5 p3 (.pointer (some ⟨p3, 0, none⟩)) x.2 ((packT l x.1).length)) ++ []) (fun x => [(w, fun _ => True)]) (fun x => l.length - x.1) ((0, r10)) (⟨Nat.zero_le _, by dsimp only; rw [packT_zero]; exact hr10⟩) (l_start Zu (fun _ h => by rw [packT_zero]; exact h)) ?_
 rintro ⟨k, r⟩ ⟨hk, hr⟩
 refine w_state ([(3, Value.pointer (some ⟨p3, 0, none⟩)), (11, Value.slice A0 l.length c0), (12, Value.int .i64 (l.length : Nat)), (13, Value.int .i64 (k : Nat))]) ((bld2 130 5 p3 (.pointer (some ⟨p3, 0, none⟩)) r ((packT l k).length)) ++ []) ([(w, fun _ => True)]) ?_
 dsimp only at hk hr
 refine Zs (Zr ?_)
 refine Xb rfl (v_lss rfl rfl) fun b14 hb14 => ?_
 refine Ze (Zt (Zs ?_))
 refine w_cond rfl (fun hc14 => ?_) (fun hc14 => ?_)
 ·simp only [hb14, Qz, ne_eq] at hc14
  have hkl : k < l.length := by omega
  obtain ⟨b0, o0, hA0, _, hc0, hk9⟩ := s_at h hkl
  have hz := packT_len (by omega) hsz (by decide) k (by omega)
  have hs9 := hsz _ (List.getElem_mem hkl)
  have hz2 := numG_ten (show l[k].size < 18446744073709551616 by omega)
  refine w_skip (Zt (Zs (w_block (Zs (Zr ?_)))))
  refine Xv rfl (v_indexAddr u55 sz9 (congrArg (fun A => some (Value.slice A l.length c0)) hA0) rfl Zo rfl) ?_
  refine Xv rfl (v_load u9 rfl rfl (at_ro (.head _) trivial (by rw [Nat.mul_one]; exact hc0))) ?_
  refine Xa ?_
  refine Ze (Zt (Zr ?_))
  refine Xm ?_
  refine Xv rfl (v_len_str u9 rfl) ?_
  refine Xv rfl (v_convE (c := ((l[k].size : Nat) : Int)) u3 u107 rfl (u64_wrap (by omega))) ?_
  refine x_callv (v := Value.string ⟨(numG (l[k].size)).toArray⟩) rfl rfl rfl Tryz.func82 Zk rfl (fun w1 hw1 => c_Num _ w1 (by omega)) ?_
  refine Xm ?_
  refine Xv (v := Value.string ⟨(numG l[k].size ++ bl l[k]).toArray⟩) rfl (by rw [mk_app]; exact v_sadd rfl rfl (by rw [mk_size]; omega)) ?_
  refine x_turnf (τ := RowS) (v := .tuple #[.int .i64 (((numG l[k].size ++ bl l[k])).length : Nat), .nilIface]) (fun r' => rowOK 1 r' ((packT l k) ++ (numG l[k].size ++ bl l[k])).length (byC ((packT l k) ++ (numG l[k].size ++ bl l[k])))) (fun r' => (bld2 130 5 p3 (.pointer (some ⟨p3, 0, none⟩)) r' (((packT l k) ++ (numG l[k].size ++ bl l[k])).length)) ++ []) rfl rfl Tryz.func81 Zk rfl (fun w1 hw1 => by
   have h := c_WS (l2 := []) (bs := (packT l k)) (r := r) (pp := (.pointer (some ⟨p3, 0, none⟩))) w1 (hw1.to (by first | rfl | simp [bld2, rowO])) (p := p3) (.inr rfl) ⟨((numG l[k].size ++ bl l[k])).toArray⟩ hr (by (try simp only [List.length_append, bl_len]); omega) (by rw [mk_size]; (try simp only [List.length_append, bl_len]); omega)
   rw [bl_mk, mk_size] at h
   exact h.mono fun e w2 ⟨h1, r', h2, h3⟩ => ⟨h1, r', h2, h3⟩) ?_
  intro r23 hr23
  refine Ze (b_norm (Zt (Zr ?_)))
  refine Xv rfl (v_addi rfl rfl rfl Zo) ?_
  refine Xm ?_
  refine Ze ?_
  exact l_norm (x := (k, r)) (μ := fun q : Nat × RowS => l.length - q.1) (k + 1, r23) ⟨by dsimp only; omega, by dsimp only; rw [packT_succ hkl]; exact hr23⟩ (by simp only; omega) Zu (fun _ h => by rw [packT_succ hkl]; exact h)
 simp only [hb14, Qz, ne_eq] at hc14
 refine w_exit ?_
 refine t_exit ?_
 refine t_exit ?_
 refine b_hit ?_
 refine Zt (Zs (Zr ?_))
 obtain rfl : k = l.length := by omega
 rw [packT_all] at hr
 refine x_turnf (τ := Unit) (v := .string ⟨(packG l).toArray⟩) (fun _ => True) (fun _ => []) rfl rfl Tryz.func83 Zk rfl (fun w1 hw1 => (c_BS (l2 := []) (bs := packG l) w1 (hw1.to (by rw [packT_all])) (p := p3) (.inr rfl) hr (B := w.heap.size) (fun q hq => by rw [List.mem_singleton.1 hq]; exact Nat.le_refl _) (fun q hq => by cases hq) (fun q hq => hw1.newer (by simp) (by rw [packT_all]; exact List.mem_append_left _ hq)) (hw1.base (by simp)).size).mono fun e w2 h => ⟨h.1, (), trivial, h.2⟩) fun _ _ => ?_
 refine Xa ?_
 refine Ze (Zt (w_ret ?_))
 refine ret1 rfl rfl (fun w' hm => ⟨?_, hm.base (by simp)⟩)
 rfl
open Go.RowKit Go.PK
theorem rdE_in {D : Nat → Prop} {w : World} {A : Option Addr} {l c : Nat} {xs : List Ent} (h : sliceRd tyEnt D w (.slice A l c) xs) : ∀ x ∈ xs, entIn x := fun d hd => by
 obtain ⟨j, hj, rfl⟩ := List.getElem_of_mem hd
 obtain ⟨_, _, _, _, _, h1⟩ := ent_at h hj
 exact h1
set_option maxHeartbeats 1000000 in
theorem c_Enc {v1 v2 v3 : Value} {bs : Nat} (p : Pat) (es : List Ent) (w : World) (hS : SerRd w bs p es v1 v2 v3) (hlen : es.length ≤ 1000) (hL : LD w) :
  Calls Tryz.prog 21 #[.pointer (some ⟨bs, 0, none⟩)] w fun e w' => e = .returned (.string (encQ p es)) ∧ Later w w' := by
 obtain ⟨A1, c1, rfl, hlc1, hmx1, hB1⟩ := id hS.lvs
 obtain ⟨A2, c2, rfl, hlc2, hmx2, hB2⟩ := id hS.sts
 obtain ⟨A3, c3, rfl, hlc3, hmx3, hB3⟩ := id hS.ent
 refine enter (vs := [.pointer (some ⟨bs, 0, none⟩)]) Tryz.func21 rfl Tryz.ntmps21 rfl ?_
 refine Zs (Zr ?_)
 refine Xa ?_
 refine Ze (Zt (Zs (Zs (Zr ?_))))
 refine Xm ?_
 refine Xb rfl (v_pnil (o := some ⟨bs, 0, none⟩) u28 rfl rfl) fun b8 hb8 => ?_
 refine Ze (Zt ?_)
 refine w_cond rfl (fun hc8 => ?_) (fun hc8 => ?_)
 ·simp [hb8] at hc8
 skip
 refine w_skip (Zt (Zs (Zr ?_)))
 refine Xa ?_
 refine Ze (Zt (Zs (Zs (Zr ?_))))
 refine Xm ?_
 refine Xv rfl (v_nilCheck rfl) ?_
 refine Xv rfl (v_fieldAddr (off' := 4) u61 rfl sz59 (by decide) rfl rfl) ?_
 refine Xv rfl (v_load u59 rfl rfl (at_ro (.head _) trivial (hS.cells 4 (by simp)))) ?_
 refine Xv rfl (v_len_slice u59 rfl) ?_
 refine Xm ?_
 refine Ze (Zt (w_block ?_))
 refine w_loop (σ := Nat × RowS) (fun x => x.1 ≤ es.length ∧ rowOK 1 x.2 (x.1 * 4) ((entsI (es.take x.1)).map (Value.int .i64))) (fun x => [(0, .pointer (some ⟨bs, 0, none⟩)), (3, rowV x.2 (x.1 * 4)), (12, .slice A3 es.length c3), (13, Value.int .i64 (es.length : Nat)), (14, Value.int .i64 (x.1 : Nat))]) (fun x => rowO 3 x.2) (fun x => [(w, fun _ => True)]) (fun x => es.length - x.1) ((0, none)) (⟨Nat.zero_le _, rowOK_nil⟩) (l_start Zu (fun _ h => h)) ?_
 rintro ⟨k, R⟩ ⟨hk, hR⟩
 refine w_state ([(0, .pointer (some ⟨bs, 0, none⟩)), (3, rowV R (k * 4)), (12, .slice A3 es.length c3), (13, Value.int .i64 (es.length : Nat)), (14, Value.int .i64 (k : Nat))]) (rowO 3 R) ([(w, fun _ => True)]) ?_
 dsimp only at hk hR
 refine Zs (Zr ?_)
 refine Xb rfl (v_lss rfl rfl) fun b15 hb15 => ?_
 refine Ze (Zt (Zs ?_))
 refine w_cond rfl (fun hc15 => ?_) (fun hc15 => ?_)
 ·simp only [hb15, Qz, ne_eq] at hc15
  have hkl : k < es.length := by omega
  obtain ⟨b0, o0, hA0, _, hc0, hin0⟩ := ent_at hS.ent hkl
  obtain ⟨e1, e2, e3⟩ := id hin0
  refine w_skip (Zt (Zs (w_block (Zs (Zr ?_)))))
  refine Xv rfl (v_indexAddr u59 sz85 (congrArg (fun A => some (Value.slice A es.length c3)) hA0) rfl Zo rfl) ?_
  refine Xv rfl (v_loadN (vs := entC es[k]) u85 rfl sz85 rfl (fun j hj => at_ro (.head _) trivial (hc0 j hj))) ?_
  refine x_alloc rfl rfl rfl zr85 ?_
  intro p5
  refine x_store0 [] rfl rfl rfl rfl sz85 rfl rfl ?_
  refine Ze (Zt (Zs (Zr ?_)))
  refine Xa ?_
  refine Ze (Zt ?_)
  refine w_seq_cut (σ := Int) (fun z => z = if es[k].sk then 1 else 0) (fun z => [(0, .pointer (some ⟨bs, 0, none⟩)), (3, rowV R (k * 4)), (5, .pointer (some ⟨p5, 0, none⟩)), (6, Value.int .i64 z), (12, .slice A3 es.length c3), (13, Value.int .i64 (es.length : Nat)), (14, Value.int .i64 (k : Nat))]) (fun z => (p5, Obj.cells (entC es[k]).toArray 85 (0, 0)) :: rowO 3 R) (fun z => [(w, fun _ => True)]) ?_ ?_
  ·refine w_seq ?_
   refine Zr ?_
   refine Xv rfl (v_fieldAddr (off' := 2) u85 rfl sz4 (by decide) rfl rfl) ?_
   refine Xb rfl (v_load u4 rfl rfl (at_ownL (vs := entC es[k]) (.head _) rfl)) fun b19 hb19 => ?_
   refine Ze (Zt ?_)
   refine w_cond rfl (fun hc19 => ?_) (fun hc19 => ?_)
   ·have hsk : es[k].sk = true := hb19.symm.trans hc19
    refine Zr ?_
    refine Xa ?_
    refine Ze ?_
    exact c_norm 1 (by rw [hsk]; rfl) Zu (fun _ h => h)
   have hsk : es[k].sk = false := hb19.symm.trans hc19
   refine w_skip ?_
   exact c_norm 0 (by rw [hsk]; rfl) Zu (fun _ h => h)
  rintro z hz
  refine w_state ([(0, .pointer (some ⟨bs, 0, none⟩)), (3, rowV R (k * 4)), (5, .pointer (some ⟨p5, 0, none⟩)), (6, Value.int .i64 z), (12, .slice A3 es.length c3), (13, Value.int .i64 (es.length : Nat)), (14, Value.int .i64 (k : Nat))]) ((p5, Obj.cells (entC es[k]).toArray 85 (0, 0)) :: rowO 3 R) ([(w, fun _ => True)]) ?_
  refine Zr ?_
  refine Xm ?_
  refine Xv rfl (v_fieldAddr (off' := 0) u85 rfl sz3 (by decide) rfl rfl) ?_
  refine Xv rfl (v_load u3 rfl rfl (at_ownL (vs := entC es[k]) (.head _) rfl)) ?_
  refine Xv rfl (v_fieldAddr (off' := 1) u85 rfl sz3 (by decide) rfl rfl) ?_
  refine Xv rfl (v_load u3 rfl rfl (at_ownL (vs := entC es[k]) (.head _) rfl)) ?_
  refine Xm ?_
  refine Xv rfl (v_fieldAddr (off' := 3) u85 rfl sz3 (by decide) rfl rfl) ?_
  refine Xv rfl (v_load u3 rfl rfl (at_ownL (vs := entC es[k]) (.head _) rfl)) ?_
  refine x_buildSliceL (cs := [Value.int .i64 es[k].fr, Value.int .i64 es[k].to, Value.int .i64 z, Value.int .i64 es[k].day]) rfl rfl rfl u22 sz3 zr3 rfl rfl rfl ?_
  intro p28
  refine x_append (e := 3) [(p28, Obj.cells ([Value.int .i64 es[k].fr, Value.int .i64 es[k].to, Value.int .i64 z, Value.int .i64 es[k].day]).toArray 3 (0, 0)), (p5, Obj.cells (entC es[k]).toArray 85 (0, 0))] (l2 := []) R (len := k * 4) (xs := (entsI (es.take k)).map (Value.int .i64)) rfl rfl rfl rfl (by simp only [List.append_nil]; rfl) hR u22 ap3 rfl rfl (m := 4) (news := [Value.int .i64 es[k].fr, Value.int .i64 es[k].to, Value.int .i64 z, Value.int .i64 es[k].day]) (fun i hi => at_ownL (vs := [Value.int .i64 es[k].fr, Value.int .i64 es[k].to, Value.int .i64 z, Value.int .i64 es[k].day]) (.head _) (by rw [Nat.zero_add]; exact List.getElem?_eq_getElem hi)) rfl Zx (by omega) fun R' hR' => ?_
  rw [List.append_nil]
  refine Xa ?_
  refine Ze (b_norm (Zt (Zr ?_)))
  refine Xv rfl (v_addi rfl rfl rfl Zo) ?_
  refine Xm ?_
  refine Ze ?_
  exact l_norm (x := (k, R)) (μ := fun q : Nat × RowS => es.length - q.1) (k + 1, R') ⟨by dsimp only; omega, by dsimp only; rw [entsI_snoc hkl, List.map_append, show (k + 1) * 4 = k * 4 + 4 by omega]; subst hz; exact hR'⟩ (by simp only; omega) (by dsimp only; rw [show (k + 1) * 4 = k * 4 + 4 by omega]; exact Zu) (fun w1 h => h.less (((List.Sublist.refl _).cons _).cons _) (fun _ h => h))
 simp only [hb15, Qz, ne_eq] at hc15
 obtain rfl : k = es.length := by omega
 rw [List.take_length] at hR
 have hin9 := entsI_in (rdE_in hS.ent)
 have hln9 := entsI_len es
 refine w_exit ?_
 refine t_exit ?_
 refine t_exit ?_
 refine b_hit ?_
 refine Zt (Zs (Zr ?_))
 refine Xm ?_
 refine Xv rfl (v_nilCheck rfl) ?_
 refine Xv rfl (v_fieldAddr (off' := 0) u61 rfl sz26 (by decide) rfl rfl) ?_
 refine Xv rfl (v_loadN (vs := ([Value.int .i64 p.first, Value.int .i64 p.days, Value.slice A1 p.lv.length c1, Value.slice A2 p.st.length c2, Value.slice A3 es.length c3]).take 4) u26 rfl sz26 rfl (fun j hj => at_ro (.head _) trivial (by match j, hj with | 0, _ => exact hS.cells 0 (by simp) | 1, _ => exact hS.cells 1 (by simp) | 2, _ => exact hS.cells 2 (by simp) | 3, _ => exact hS.cells 3 (by simp)))) ?_
 refine x_callv rfl rfl rfl Tryz.func54 Zk rfl (fun w1 hw1 => c_Write p w1 (patRd.keep (⟨hS.fst, hS.dys, hS.lvs, hS.sts⟩ : patRd (fun _ => True) w p (.slice A1 p.lv.length c1) (.slice A2 p.st.length c2)) (Kept.later (hw1.base (by simp)))) (hL.later (hw1.base (by simp)))) ?_
 refine Xm ?_
 refine x_callv (v := Value.string ⟨(intsG (entsI es)).toArray⟩) rfl rfl rfl Tryz.func55 Zk rfl (fun w1 hw1 => c_Ints w1 (rowI_rd (D := fun _ => True) (e := 3) hR hln9.symm hin9 hw1 (fun q hq => hq) (fun _ _ => trivial)) (by rw [hln9]; omega)) ?_
 refine x_buildSliceL (cs := [Value.string (writeQ p), Value.string ⟨(intsG (entsI es)).toArray⟩]) rfl rfl rfl u55 sz9 zr9 rfl rfl rfl ?_
 intro p38
 have hz1 : (writeQ p).size ≤ 2000000 := by
  by_cases hq : rightQ p
  ·have := wr_sz hq; omega
  unfold writeQ; rw [if_neg hq]; decide
 have hz2 : (⟨(intsG (entsI es)).toArray⟩ : ByteArray).size ≤ 2000000 := by
  rw [mk_size, ← intsT_all]
  have := intsT_len (l := entsI es) (by omega) hin9 _ (Nat.le_refl _)
  omega
 refine x_callv (v := Value.string (encQ p es)) rfl rfl rfl Tryz.func53 Zk rfl (fun w1 hw1 => c_Pack (l := [writeQ p, ⟨(intsG (entsI es)).toArray⟩]) (D := fun _ => True) w1 (row1_rd (T := tyStr) (e := 9) (r := some (p38, [writeQ p, ⟨(intsG (entsI es)).toArray⟩].map Value.string, 2)) Value.string rfl (rowOK_lit rfl (by simp [maxLen])) rfl (fun D9 w9 s hs => ⟨rfl, by unfold okS; rcases List.mem_cons.1 hs with rfl | hs; (· omega); rw [List.mem_singleton.1 hs]; omega⟩) hw1 (fun q hq => by rw [show q = _ from List.mem_singleton.1 hq]; exact .head _) (fun _ _ => trivial)) (by simp) (fun s hs => by rcases List.mem_cons.1 hs with rfl | hs; (· exact hz1); rw [List.mem_singleton.1 hs]; exact hz2)) ?_
 refine Xa ?_
 refine Ze (Zt (w_ret ?_))
 refine ret1 rfl rfl (fun w' hm => ⟨?_, hm.base (by simp)⟩)
 rfl
theorem c_Call {D : Nat → Prop} {v1 v2 : Value} (p : Pat) (a : ActD) (w : World) (hp : patRd D w p v1 v2) (hq : rightQ p) (ha : actIn a) :
  Calls Tryz.prog 12 #[.agg (actC a).toArray, .agg #[.int .i64 p.first, .int .i64 p.days, v1, v2]] w fun e w' => e = .returned (.tuple #[.string (callT p a), .int .i64 (callD p a)]) ∧ Later w w' := by
 obtain ⟨hp1, hp2, h1, h2⟩ := id hp
 obtain ⟨A1, c1, rfl, hlc1, hmx1, hB1⟩ := id h1
 obtain ⟨A2, c2, rfl, hlc2, hmx2, hB2⟩ := id h2
 obtain ⟨bL, oL, hL0, hLk⟩ := rd_blk h1
 obtain ⟨bS, oS, hS0, hSk⟩ := rd_blk h2
 have e1 := Int.emod_nonneg a.fr (show (200 : Int) ≠ 0 by decide)
 have e2 := Int.emod_lt_of_pos a.fr (show (0 : Int) < 200 by decide)
 have e3 := Int.emod_nonneg a.to (show (320 : Int) ≠ 0 by decide)
 have e4 := Int.emod_lt_of_pos a.to (show (0 : Int) < 320 by decide)
 have s1 := isT_sz hq e1 (by omega) a.sk
 have s2 := txN_sz hq e3 (by omega)
 have s3 := txN_sz hq e1 (by omega)
 refine enter (vs := [.agg (actC a).toArray, .agg #[.int .i64 p.first, .int .i64 p.days, .slice A1 p.lv.length c1, .slice A2 p.st.length c2]]) Tryz.func12 rfl Tryz.ntmps12 rfl ?_
 refine Zs (Zr ?_)
 refine x_box rfl rfl rfl rfl ?_
 intro p2
 refine x_box rfl rfl rfl rfl ?_
 intro p3
 refine Xa ?_
 refine Xa ?_
 refine Ze (Zt (Zs (Zr ?_)))
 refine Xv rfl (v_fieldAddr (off' := 0) u26 rfl sz3 (by decide) rfl rfl) ?_
 refine Xv rfl (v_load u3 rfl rfl (at_ownL Zh rfl)) ?_
 refine Xv rfl (v_fieldAddr (off' := 2) u34 rfl sz3 (by decide) rfl rfl) ?_
 refine Xv rfl (v_load u3 rfl rfl (at_ownL (vs := actC a) Zh rfl)) ?_
 refine Xv (v := Value.int .i64 (callD p a)) rfl (v_add rfl rfl) ?_
 refine Xa ?_
 refine Ze (Zt (Zs (Zs (Zr ?_))))
 refine Xv rfl (v_fieldAddr (off' := 5) u34 rfl sz9 (by decide) rfl rfl) ?_
 refine Xv rfl (v_load u9 rfl rfl (at_ownL (vs := actC a) Zh rfl)) ?_
 refine Xb rfl (v_sneq rfl rfl) fun b15 hb15 => ?_
 refine Ze (Zt ?_)
 refine w_cond rfl (fun hc15 => ?_) (fun hc15 => ?_)
 ·simp only [hb15, Qz, ne_eq] at hc15
  have hraw : a.raw ≠ ⟨#[]⟩ := hc15
  refine Zs (Zr ?_)
  refine Xv rfl (v_fieldAddr (off' := 5) u34 rfl sz9 (by decide) rfl rfl) ?_
  refine Xv rfl (v_load u9 rfl rfl (at_ownL (vs := actC a) Zh rfl)) ?_
  refine Xm ?_
  refine Xa ?_
  refine Xa ?_
  refine Ze (Zt (w_ret (t_ret ?_)))
  refine ret2 rfl rfl rfl (fun w' hm => ⟨?_, hm.base (by simp)⟩)
  unfold callT; rw [if_pos hraw]
 simp only [hb15, Qz, ne_eq] at hc15
 have hraw : ¬a.raw ≠ ⟨#[]⟩ := fun h => h hc15
 refine w_skip (Zt (Zs ?_))
 refine rg_draw 6 [(true, 0), (true, 1), (true, 2), (true, 3), (true, 4), (true, 5)] Zk Zk ?_
 refine Xv rfl (v_load_blk (e := 26) (fz := (0, 0)) (cs := #[Value.int .i64 p.first, Value.int .i64 p.days, Value.slice A1 p.lv.length c1, Value.slice A2 p.st.length c2]) u26 rfl rfl (.head _) (by exact sz26)) ?_
 refine Xv rfl (v_fieldAddr (off' := 0) u34 rfl sz3 (by decide) rfl rfl) ?_
 refine Xv rfl (v_load u3 rfl rfl (at_ownL (vs := actC a) Zh rfl)) ?_
 refine x_callv (v := Value.int .i64 (a.fr % 200)) rfl rfl rfl Tryz.func15 Zk rfl (fun w1 hw1 => c_Md _ 200 w1 ha.1 (by decide)) ?_
 refine x_callv (v := Value.string (txN (numsP p (a.fr % 200)))) rfl rfl rfl Tryz.func36 Zk rfl (fun w1 hw1 => c_Text p (a.fr % 200) w1 (hp.keep (Kept.later (hw1.base (by simp)))) hq e1 (by omega)) ?_
 refine Xa ?_
 refine Ze (Zt ?_)
 refine w_seq_cut (σ := Unit) (fun q => True) (fun q => [(2, .pointer (some ⟨p2, 0, none⟩)), (3, .pointer (some ⟨p3, 0, none⟩)), (6, Value.int .i64 (callD p a)), (7, Value.string (isT p a.sk (a.fr % 200)))]) (fun q => [(p3, Obj.cells #[Value.int .i64 p.first, Value.int .i64 p.days, Value.slice A1 p.lv.length c1, Value.slice A2 p.st.length c2] 26), (p2, Obj.cells (actC a).toArray 34 (0, 0))]) (fun q => [(w, fun _ => True)]) ?_ ?_
 ·refine w_seq ?_
  refine Zr ?_
  refine Xv rfl (v_fieldAddr (off' := 3) u34 rfl sz4 (by decide) rfl rfl) ?_
  refine Xb rfl (v_load u4 rfl rfl (at_ownL (vs := actC a) Zh rfl)) fun b25 hb25 => ?_
  refine Ze (Zt ?_)
  refine w_cond rfl (fun hc25 => ?_) (fun hc25 => ?_)
  ·have hsk : a.sk = true := hb25.symm.trans hc25
   refine Zr ?_
   refine Xm ?_
   refine Xv rfl (v_sadd (s := ⟨#[120]⟩) rfl rfl (by show 1 + _ ≤ _; omega)) ?_
   refine Xa ?_
   refine Ze ?_
   exact c_norm () trivial (by rw [hsk]; exact Zu) (fun _ h => h)
  have hsk : a.sk = false := hb25.symm.trans hc25
  refine w_skip ?_
  exact c_norm () trivial (by rw [hsk]; exact Zu) (fun _ h => h)
 rintro _ _
 refine w_state ([(2, .pointer (some ⟨p2, 0, none⟩)), (3, .pointer (some ⟨p3, 0, none⟩)), (6, Value.int .i64 (callD p a)), (7, Value.string (isT p a.sk (a.fr % 200)))]) ([(p3, Obj.cells #[Value.int .i64 p.first, Value.int .i64 p.days, Value.slice A1 p.lv.length c1, Value.slice A2 p.st.length c2] 26), (p2, Obj.cells (actC a).toArray 34 (0, 0))]) ([(w, fun _ => True)]) ?_
 refine Zs (Zs (Zr ?_))
 refine Xv rfl (v_fieldAddr (off' := 4) u34 rfl sz4 (by decide) rfl rfl) ?_
 refine Xb rfl (v_load u4 rfl rfl (at_ownL (vs := actC a) Zh rfl)) fun b29 hb29 => ?_
 refine Ze (Zt ?_)
 refine w_cond rfl (fun hc29 => ?_) (fun hc29 => ?_)
 ·have htw : a.two = true := hb29.symm.trans hc29
  refine rg_draw 9 [(true, 0), (true, 1), (true, 2), (true, 3), (true, 4), (true, 5), (true, 6), (true, 7), (true, 8)] Zk Zk ?_
  refine Xm ?_
  refine Xv rfl (v_sadd (u := ⟨#[45]⟩) rfl rfl (by show _ + 1 ≤ _; omega)) ?_
  refine Xv rfl (v_load_blk (e := 26) (fz := (0, 0)) (cs := #[Value.int .i64 p.first, Value.int .i64 p.days, Value.slice A1 p.lv.length c1, Value.slice A2 p.st.length c2]) u26 rfl rfl (.head _) (by exact sz26)) ?_
  refine Xv rfl (v_fieldAddr (off' := 1) u34 rfl sz3 (by decide) rfl rfl) ?_
  refine Xv rfl (v_load u3 rfl rfl (at_ownL (vs := actC a) Zh rfl)) ?_
  refine x_callv (v := Value.int .i64 (a.to % 320)) rfl rfl rfl Tryz.func15 Zk rfl (fun w1 hw1 => c_Md _ 320 w1 ha.2.1 (by decide)) ?_
  refine x_callv (v := Value.string (txN (numsP p (a.to % 320)))) rfl rfl rfl Tryz.func36 Zk rfl (fun w1 hw1 => c_Text p (a.to % 320) w1 (hp.keep (Kept.later (hw1.base (by simp)))) hq e3 (by omega)) ?_
  refine Xv rfl (v_sadd rfl rfl (by rw [ByteArray.size_append]; show _ + 1 + _ ≤ _; omega)) ?_
  refine Xa ?_
  refine Ze (Zt (Zs (Zr ?_)))
  refine Xm ?_
  refine Xm ?_
  refine Xa ?_
  refine Xa ?_
  refine Ze (Zt (w_ret ?_))
  refine ret2 rfl rfl rfl (fun w' hm => ⟨?_, hm.base (by simp)⟩)
  unfold callT; rw [if_neg hraw, if_pos htw]
 have htw : a.two = false := hb29.symm.trans hc29
 refine w_skip (Zt (Zs (Zr ?_)))
 refine Xm ?_
 refine Xm ?_
 refine Xa ?_
 refine Xa ?_
 refine Ze (Zt (w_ret ?_))
 refine ret2 rfl rfl rfl (fun w' hm => ⟨?_, hm.base (by simp)⟩)
 unfold callT; rw [if_neg hraw, htw]; rfl
open Go.RowKit Go.PK
open Go.RowKit Go.PK
open Go.RowKit Go.PK
open Go.RowKit Go.PK
open Go.RowKit Go.PK
open Go.RowKit Go.PK
theorem take_srt {p : Pat} {es : List Ent} {text : ByteArray} {day : Int} (h : srt es) : srt (takeQ p es text day).1 ∧ (takeQ p es text day).1.length ≤ es.length + 1 := by
 rw [takeQ_eq]
 cases hx : (tkE p text day).1 with
 | none => exact ⟨h, by dsimp only; omega⟩
 | some x =>
  dsimp only
  cases hm : meets es x with
  | true => exact ⟨h, by show es.length ≤ _; omega⟩
  | false => exact ⟨(ins_srt h (tkE_ok hx).1 hm).1, by show (insE es x).length ≤ _; rw [insE_len]; omega⟩
open Go.RowKit Go.PK
open Go.RowKit Go.PK
open Go.RowKit Go.PK
open Go.RowKit Go.PK
attribute [local irreducible] WX
end Go.Proofs.YtaniaihoodgmpaaGreatDoor

namespace Go.Proofs.YtaniaihoodgmpaaGreatDoor
open Go.RowKit Go.PK
attribute [local irreducible] WX
end Go.Proofs.YtaniaihoodgmpaaGreatDoor

namespace Go.Proofs.YtaniaihoodgmpaaGreatDoor
open Go.RowKit Go.PK
attribute [local irreducible] WX
end Go.Proofs.YtaniaihoodgmpaaGreatDoor

namespace Go.Proofs.YtaniaihoodgmpaaGreatDoor
open Go.RowKit Go.PK
attribute [local irreducible] WX
def nxE (es : List Ent) : Int := match es.getLast? with | none => 0 | some x => x.to + 1
end Go.Proofs.YtaniaihoodgmpaaGreatDoor

namespace Go.Proofs.YtaniaihoodgmpaaGreatDoor
open Go.RowKit Go.PK
open Go.RowKit Go.PK
section
variable {P : Program} {n : Nat} {l : List (Nat × Value)} {own : List (Nat × Obj)} {ro : List Snap} {lops : List Oper} {Q : Exit → Act → World → Prop} {K : Act → World → Prop} {rest : List (Option Bool × Nat)} {k : Option Bool} {i d j dj : Nat} {want : Bool} {op : Op} {ty : TypeId} {pos : String} {af : Array Edge}
end
end Go.Proofs.YtaniaihoodgmpaaGreatDoor
