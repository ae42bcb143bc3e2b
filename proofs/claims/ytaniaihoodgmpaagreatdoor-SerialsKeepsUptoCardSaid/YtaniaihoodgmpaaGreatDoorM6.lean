/- Of the proofs of YtaniaihoodgmpaaGreatDoor: Ut Uu Xx Xp, put together. -/
import Derived.Test.YtaniaihoodgmpaaGreatDoorM5
import Derived.Test.YtaniaihoodgmpaaGreatDoorM2
import Derived.Lay
import Derived.LaidSub
import Derived.Lib.LaidTab
import Derived.Stop.LaidErr
import Derived.Deep.DeepHandedRow
import Derived.SevenTiedAt
import Derived.Test.YtaniaihoodgmpaaGreatDoorM1
import Derived.Test.YtaniaihoodgmpaaGreatDoorM3
import Derived.Test.YtaniaihoodgmpaaGreatDoorM4
set_option linter.unusedVariables false
set_option linter.unusedSimpArgs false
set_option maxRecDepth 100000

namespace Go.Proofs.YtaniaihoodgmpaaGreatDoor
open Go.RowKit Go.PK
theorem c_issueW {D : Nat → Prop} {v1 v2 : Value} (p : Pat) (k : Int) (w : World) (hp : patRd D w p v1 v2) (hq : rightQ p) (h0 : 0 ≤ k) (hk : k ≤ 2000000) :
  Calls Tryz.prog 50 #[.agg #[.int .i64 p.first, .int .i64 p.days, v1, v2], .int .i64 k] w fun e w' => ∃ v, e = .returned v ∧ Later w w' ∧ ∃ A c, v = .agg #[.slice A p.lv.length c, .int .i64 (p.first + k * p.days)] ∧ sliceW (fun b => w.heap.size ≤ b) w' (.slice A p.lv.length c) (numsP p k) := by
 obtain ⟨hp1, hp2, h1, h2⟩ := id hp
 obtain ⟨A1, c1, rfl, hlc1, hmx1, hB1⟩ := id h1
 obtain ⟨A2, c2, rfl, hlc2, hmx2, hB2⟩ := id h2
 obtain ⟨bL, oL, hL0, hLk⟩ := rd_blk h1
 obtain ⟨bS, oS, hS0, hSk⟩ := rd_blk h2
 have q1 := hq.1.1
 have q2 := hq.1.2.1
 have q3 := hq.1.2.2.1
 have hbr := baseP_rng hq
 refine enter (vs := [.agg #[.int .i64 p.first, .int .i64 p.days, .slice A1 p.lv.length c1, .slice A2 p.st.length c2], .int .i64 k]) Tryz.func50 rfl Tryz.ntmps50 rfl ?_
 refine Zs (Zr ?_)
 refine x_box rfl rfl rfl rfl ?_
 intro p2
 refine x_alloc rfl rfl rfl zr48 ?_
 intro p4
 refine Ze (Zt (Zs (Zr ?_)))
 refine Xv rfl (v_fieldAddr (off' := 2) u26 rfl sz22 (by decide) rfl rfl) ?_
 refine Xv rfl (Vl u22 rfl) ?_
 refine Xv rfl (v_len_slice u22 rfl) ?_
 refine x_makeSlice (c := p.lv.length) rfl rfl rfl rfl rfl u22 ap3 rfl (by omega) Zx ?_
 intro p11
 refine Xa ?_
 refine Ze (Zt (Zs (Zr ?_)))
 refine Xv rfl (v_load_blk u26 rfl rfl (by first | exact .head _ | exact .tail _ (.head _) | exact .tail _ (.tail _ (.head _)) | (repeat (first | exact List.Mem.head _ | apply List.Mem.tail | apply List.mem_append_right))) (by exact sz26)) ?_
 refine x_callv rfl rfl rfl Tryz.func71 Zk rfl (fun w1 hw1 => c_base p w1 (hp.keep (Kept.later (hw1.base (by simp)))) hq) ?_
 refine Xm ?_
 have hst := numL_start hq (baseP p + k)
 refine Xv (v := Value.int .i64 (restL p (baseP p + k) (p.lv.length - 1))) rfl (by rw [hst.2]; exact v_addi rfl rfl rfl (by omega)) ?_
 refine Xa ?_
 refine Ze (Zt (Zs (Zs (Zr ?_))))
 refine Xv rfl (v_fieldAddr (off' := 2) u26 rfl sz22 (by decide) rfl rfl) ?_
 refine Xv rfl (Vl u22 rfl) ?_
 refine Xv rfl (v_len_slice u22 rfl) ?_
 refine Xv rfl (v_subi (c := ((p.lv.length - 1 : Nat) : Int)) rfl rfl (by omega) (by omega)) ?_
 refine Xa ?_
 refine Ze (Zt (w_block ?_))
 rw [show (List.replicate p.lv.length (Value.int .i64 0)) = (numL p (baseP p + k) (p.lv.length - 1)).map (Value.int .i64) from by rw [hst.1, List.map_replicate]]
 refine w_loop (σ := Nat) (fun i => i < p.lv.length) (fun i => [(1, Value.int .i64 k), (2, .pointer (some ⟨p2, 0, none⟩)), (4, .pointer (some ⟨p4, 0, none⟩)), (5, Value.slice (some ⟨p11, 0, none⟩) p.lv.length p.lv.length), (6, Value.int .i64 (restL p (baseP p + k) i)), (7, Value.int .i64 (i : Nat))]) (fun i => [(p11, Obj.cells ((numL p (baseP p + k) i).map (Value.int .i64)).toArray 3), (p4, Obj.cells #[Value.slice none 0 0, Value.int .i64 0] 48), (p2, Obj.cells #[Value.int .i64 p.first, Value.int .i64 p.days, Value.slice A1 p.lv.length c1, Value.slice A2 p.st.length c2] 26)]) (fun i => [(w, fun _ => True)]) (fun i => i) (p.lv.length - 1) (by omega) (l_start Zu (fun _ h => h)) ?_
 rintro i hi
 obtain ⟨r1, r2⟩ := restL_rng hq (show 0 ≤ (baseP p + k) by omega) i
 refine Zs (Zs (Zr ?_))
 refine Xm ?_
 refine Xb rfl (v_gtr rfl rfl) fun b21 hb21 => ?_
 refine Ze (Zt ?_)
 refine w_cond rfl (fun hc21 => ?_) (fun hc21 => ?_)
 ·simp only [hb21, Qz, ne_eq] at hc21
  obtain ⟨j, rfl⟩ : ∃ j, i = j + 1 := ⟨i - 1, by omega⟩
  obtain ⟨a1, a2, a3, a4⟩ := hq.at (j := j + 1) (by omega) hi
  have em := Int.emod_nonneg (restL p (baseP p + k) (j + 1)) (show p.lv.getD (j + 1) 0 ≠ 0 by omega)
  have em2 := Int.emod_lt_of_pos (restL p (baseP p + k) (j + 1)) (show 0 < p.lv.getD (j + 1) 0 by omega)
  have hst := restL_step (r := (baseP p + k)) hi
  have hr0 := restL_rng hq (show 0 ≤ (baseP p + k) by omega) j
  have hnl := numL_len (p := p) (r := (baseP p + k)) hi
  refine w_skip (Zt (Zs (w_block (Zs (Zr ?_)))))
  refine Xm ?_
  refine Xm ?_
  refine Xm ?_
  refine Xv rfl (v_fieldAddr (off' := 2) u26 rfl sz22 (by decide) rfl rfl) ?_
  refine Xv rfl (Vl u22 rfl) ?_
  refine Xm ?_
  refine Xv rfl (v_indexAddr u22 sz3 (congrArg (fun A => some (Value.slice A p.lv.length c1)) (hL0 (by omega)).1) rfl Zo rfl) ?_
  refine Xv rfl (v_load u3 rfl rfl (at_ro (.head _) trivial (by rw [Nat.mul_one]; exact (hLk (j + 1) (by omega)).1))) ?_
  refine Xv (v := Value.int .i64 (restL p (baseP p + k) (j + 1) % p.lv.getD (j + 1) 0)) rfl (by rw [← Int.tmod_eq_emod_of_nonneg r1]; exact v_rem rfl rfl (by omega)) ?_
  refine Xv rfl (v_addi rfl rfl rfl Zo) ?_
  refine Xv rfl (v_indexAddr u22 sz3 rfl rfl Zo rfl) ?_
  refine x_store [] rfl rfl rfl rfl sz3 rfl (by rw [List.length_map, hnl]; omega) ?_
  refine Ze (Zt (Zr ?_))
  refine Xm ?_
  refine Xv rfl (v_fieldAddr (off' := 2) u26 rfl sz22 (by decide) rfl rfl) ?_
  refine Xv rfl (Vl u22 rfl) ?_
  refine Xm ?_
  refine Xv rfl (v_indexAddr u22 sz3 (congrArg (fun A => some (Value.slice A p.lv.length c1)) (hL0 (by omega)).1) rfl Zo rfl) ?_
  refine Xv rfl (v_load u3 rfl rfl (at_ro (.head _) trivial (by rw [Nat.mul_one]; exact (hLk (j + 1) (by omega)).1))) ?_
  rw [put_int (by rw [hnl]; exact hi), numL_step hi]
  refine Xv rfl (v_quoi (c := restL p (baseP p + k) j) rfl rfl (by omega) (by rw [Int.tdiv_eq_ediv_of_nonneg r1, hst]) (by omega)) ?_
  refine Xa ?_
  refine Ze (b_norm (Zt (Zr ?_)))
  refine Xm ?_
  refine Xv rfl (v_subi (c := (j : Int)) rfl rfl (by omega) (by omega)) ?_
  refine Xa ?_
  refine Ze ?_
  exact l_norm j (show j < p.lv.length by omega) (by omega) Zu (fun _ h => h)
 simp only [hb21, Qz, ne_eq] at hc21
 obtain rfl : i = 0 := by omega
 have hnl := numL_len (p := p) (r := (baseP p + k)) hi
 have h5 := hq.1.2.2.2.2.1
 have h6 := hq.1.2.2.2.2.2
 have hdy := day_rng hq h0 hk
 have hdd := hq.2.2.2
 unfold okDay at hdd
 refine w_exit ?_
 refine t_exit ?_
 refine t_exit ?_
 refine b_hit ?_
 refine Zt (Zs (Zr ?_))
 refine Xm ?_
 refine Xv rfl (v_fieldAddr (off' := 3) u26 rfl sz22 (by decide) rfl rfl) ?_
 refine Xv rfl (Vl u22 rfl) ?_
 refine Xv rfl (v_indexAddr (j := 0) u22 sz3 (congrArg (fun A => some (Value.slice A p.st.length c2)) (hS0 (by omega)).1) rfl Zo rfl) ?_
 refine Xv rfl (v_load u3 rfl rfl (at_ro (.head _) trivial (by rw [Nat.mul_one]; exact (hSk (0) (by omega)).1))) ?_
 refine Xm ?_
 refine Xv rfl (v_addi rfl rfl rfl Zo) ?_
 refine Xv rfl (v_indexAddr (j := 0) u22 sz3 rfl rfl Zo rfl) ?_
 refine x_store [] rfl rfl rfl rfl sz3 rfl (by rw [List.length_map, hnl]; omega) ?_
 refine Ze (Zt (Zs (Zr ?_)))
 have e0 := put_int (cs := numL p (baseP p + k) 0) (k := 0) (x := p.st.getD 0 0 + restL p (baseP p + k) 0) (by rw [hnl]; exact hi)
 rw [e0, numL_end hq k]
 refine Xm ?_
 refine Xv rfl (v_fieldAddr (off' := 0) u26 rfl sz3 (by decide) rfl rfl) ?_
 refine Xv rfl (Vl u3 rfl) ?_
 refine Xm ?_
 refine Xv rfl (v_fieldAddr (off' := 1) u26 rfl sz3 (by decide) rfl rfl) ?_
 refine Xv rfl (Vl u3 rfl) ?_
 refine Xv rfl (v_muli rfl rfl rfl Zo) ?_
 refine Xv rfl (v_addi rfl rfl rfl Zo) ?_
 refine Xv rfl (v_buildL (places := [(0, 1), (1, 1)]) u48 zr48 Zk rfl rfl) ?_
 refine x_store0 [(p11, _)] rfl rfl rfl rfl sz48 rfl rfl ?_
 refine Ze (Zt (w_ret ?_))
 refine retc rfl rfl (.tail _ (.head _)) u48 rfl sz48 (fun w' hm => ⟨_, rfl, hm.base (by simp), some ⟨p11, 0, none⟩, _, rfl, ?_⟩)
 have hr : rowOK 1 (some (p11, (numsP p k).map (Value.int .i64), p.lv.length)) p.lv.length ((numsP p k).map (Value.int .i64)) := rowOK_lit (by simp [numsP_len hq]) Zx
 exact sliceW_own (e := 3) hr (numsP_len hq k).symm (nums_in64 hq h0 hk) hm (fun p hp => by rw [show p = _ from List.mem_singleton.1 hp]; exact .head _) (fun p hp => by rw [show p = _ from List.mem_singleton.1 hp]; exact hm.newer (by simp) (.head _))
set_option maxHeartbeats 1000000 in
theorem c_HeldW {v1 v2 v3 : Value} {bs : Nat} (p : Pat) (es : List Ent) (w : World) (hS : SerRd w bs p es v1 v2 v3) (hq : es ≠ [] → rightQ p) (hok : ∀ x ∈ es, entOK x) (hlen : es.length ≤ 100000) :
  Calls Tryz.prog 19 #[.pointer (some ⟨bs, 0, none⟩)] w fun e w' => ∃ R, e = .returned (rowV R (heldP p es).length) ∧ Later w w' ∧ (∀ q ∈ rowO 48 R, w'.heap[q.1]? = some q.2 ∧ w.heap.size ≤ q.1) ∧ RowT tyIssW (newD w (rowO 48 R)) w' R (heldP p es) := by
 obtain ⟨A1, c1, rfl, hlc1, hmx1, hB1⟩ := id hS.lvs
 obtain ⟨A2, c2, rfl, hlc2, hmx2, hB2⟩ := id hS.sts
 obtain ⟨A3, c3, rfl, hlc3, hmx3, hB3⟩ := id hS.ent
 refine enter (vs := [.pointer (some ⟨bs, 0, none⟩)]) Tryz.func19 rfl Tryz.ntmps19 rfl ?_
 refine Zs (Zr ?_)
 refine Xa ?_
 refine Ze (Zt (Zs (Zs (Zr ?_))))
 refine Xm ?_
 refine Xb rfl (v_pnil (o := some ⟨bs, 0, none⟩) u28 rfl rfl) fun b9 hb9 => ?_
 refine Ze (Zt ?_)
 refine w_cond rfl (fun hc9 => ?_) (fun hc9 => ?_)
 ·simp [hb9] at hc9
 skip
 refine w_skip (Zt (Zs (Zr ?_)))
 refine Xa ?_
 refine Ze (Zt (Zs (Zs (Zr ?_))))
 refine Xm ?_
 refine Xv rfl (v_nilCheck rfl) ?_
 refine Xv rfl (v_fieldAddr (off' := 4) u61 rfl sz59 (by decide) rfl rfl) ?_
 refine Xv rfl (v_load u59 rfl rfl (at_ro (.head _) trivial (hS.cells 4 (by simp)))) ?_
 refine Xv rfl (v_len_slice u59 rfl) ?_
 refine Xm ?_
 refine Ze (Zt (w_block ?_))
 refine w_fix (rowO 48 none) (List.Sublist.refl _) (fun w0 hm0 => ?_)
 refine w_loop (σ := RowS × Nat × World) (fun x => x.2.1 ≤ es.length ∧ RowT tyIssW (newD w (rowO 48 x.1)) x.2.2 x.1 (heldP p (es.take x.2.1))) (fun x => [(0, .pointer (some ⟨bs, 0, none⟩)), (3, rowV x.1 (heldP p (es.take x.2.1)).length), (13, .slice A3 es.length c3), (14, Value.int .i64 (es.length : Nat)), (15, Value.int .i64 (x.2.1 : Nat))]) (fun x => rowO 48 x.1) (fun x => (x.2.2, notOwn (rowO 48 x.1)) :: [(w, fun _ => True)]) (fun x => es.length - x.2.1) ((none, 0, w0)) (⟨Nat.zero_le _, RowT.nil⟩) (l_start Zu (fun _ h => h)) ?_
 rintro ⟨R, k, ws⟩ ⟨hk, hT⟩
 refine w_state ([(0, .pointer (some ⟨bs, 0, none⟩)), (3, rowV R (heldP p (es.take k)).length), (13, .slice A3 es.length c3), (14, Value.int .i64 (es.length : Nat)), (15, Value.int .i64 (k : Nat))]) (rowO 48 R) ((ws, notOwn (rowO 48 R)) :: [(w, fun _ => True)]) ?_
 dsimp only at hk hT
 have hhl := heldP_len (p := p) hok k
 refine Zs (Zr ?_)
 refine Xb rfl (v_lss rfl rfl) fun b16 hb16 => ?_
 refine Ze (Zt (Zs ?_))
 refine w_cond rfl (fun hc16 => ?_) (fun hc16 => ?_)
 ·simp only [hb16, Qz, ne_eq] at hc16
  have hkl : k < es.length := by omega
  obtain ⟨b0, o0, hA0, _, hc0, hin0⟩ := ent_at hS.ent hkl
  obtain ⟨e1, e2, e3, e4, _⟩ := hok _ (List.getElem_mem hkl)
  have e5 := (hok _ (List.getElem_mem hkl)).in.2.2
  have hq := hq (fun h => by rw [h] at hkl; simp at hkl)
  have hdd := hq.2.2.2
  unfold okDay at hdd
  refine w_skip (Zt (Zs (w_block (Zs (Zr ?_)))))
  refine Xv rfl (v_indexAddr u59 sz85 (congrArg (fun A => some (Value.slice A es.length c3)) hA0) rfl Zo rfl) ?_
  refine Xv rfl (v_loadN (vs := entC es[k]) u85 rfl sz85 rfl (fun j hj => at_ro (.tail _ (.head _)) trivial (hc0 j hj))) ?_
  refine x_alloc rfl rfl rfl zr85 ?_
  intro p5
  refine x_store0 [] rfl rfl rfl rfl sz85 rfl rfl ?_
  refine Ze (Zt (Zs (Zr ?_)))
  refine Xv rfl (v_fieldAddr (off' := 0) u85 rfl sz3 (by decide) rfl rfl) ?_
  refine Xv rfl (v_load u3 rfl rfl (at_ownL (vs := entC es[k]) (.head _) rfl)) ?_
  refine Xv (v := Value.int .i64 (es[k].fr + ((0 : Nat) : Int))) rfl (by rw [show es[k].fr + ((0 : Nat) : Int) = es[k].fr by omega]; exact v_assign rfl) ?_
  refine Ze (Zt (w_block ?_))
  refine w_fix ((p5, Obj.cells (entC es[k]).toArray 85 (0, 0)) :: rowO 48 R) (List.Sublist.refl _) (fun w0 hm0 => ?_)
  have hT0 := hT.keep (Kept.frz (own' := (p5, Obj.cells (entC es[k]).toArray 85 (0, 0)) :: rowO 48 R) hm0 (List.Sublist.refl _) (by simp))
  refine w_loop (σ := RowS × Nat × World) (fun x => x.2.1 ≤ (es[k].to - es[k].fr + 1).toNat ∧ (es[k].sk = true → x.2.1 = 0) ∧ RowT tyIssW (newD w ((p5, Obj.cells (entC es[k]).toArray 85 (0, 0)) :: rowO 48 x.1)) x.2.2 x.1 ((heldP p (es.take k)) ++ heldJ p es[k] x.2.1)) (fun x => [(0, .pointer (some ⟨bs, 0, none⟩)), (3, rowV x.1 ((heldP p (es.take k)).length + x.2.1)), (5, .pointer (some ⟨p5, 0, none⟩)), (6, Value.int .i64 (es[k].fr + (x.2.1 : Nat))), (13, .slice A3 es.length c3), (14, Value.int .i64 (es.length : Nat)), (15, Value.int .i64 (k : Nat))]) (fun x => (p5, Obj.cells (entC es[k]).toArray 85 (0, 0)) :: rowO 48 x.1) (fun x => (x.2.2, notOwn ((p5, Obj.cells (entC es[k]).toArray 85 (0, 0)) :: rowO 48 x.1)) :: [(w, fun _ => True)]) (fun x => (es[k].to - es[k].fr + 1).toNat - x.2.1) ((R, 0, w0)) (⟨Nat.zero_le _, fun _ => rfl, by dsimp only; rw [show heldJ p es[k] 0 = [] from rfl, List.append_nil]; exact hT0⟩) (l_start Zu (fun w1 h => h.less (List.Sublist.refl _) (fun q hq => by simp at hq ⊢; rcases hq with h | h; (· exact .inl h); simp [h]))) ?_
  rintro ⟨R', j, ws'⟩ ⟨hj, hsk, hT'⟩
  refine w_state ([(0, .pointer (some ⟨bs, 0, none⟩)), (3, rowV R' ((heldP p (es.take k)).length + j)), (5, .pointer (some ⟨p5, 0, none⟩)), (6, Value.int .i64 (es[k].fr + (j : Nat))), (13, .slice A3 es.length c3), (14, Value.int .i64 (es.length : Nat)), (15, Value.int .i64 (k : Nat))]) ((p5, Obj.cells (entC es[k]).toArray 85 (0, 0)) :: rowO 48 R') ((ws', notOwn ((p5, Obj.cells (entC es[k]).toArray 85 (0, 0)) :: rowO 48 R')) :: [(w, fun _ => True)]) ?_
  dsimp only at hj hsk hT'
  have hln : ((heldP p (es.take k)) ++ heldJ p es[k] j).length = (heldP p (es.take k)).length + j := by rw [List.length_append, heldJ_len]
  refine Zs (Zs (Zr ?_))
  refine Xm ?_
  refine Xv rfl (v_fieldAddr (off' := 1) u85 rfl sz3 (by decide) rfl rfl) ?_
  refine Xv rfl (v_load u3 rfl rfl (at_ownL (vs := entC es[k]) (.head _) rfl)) ?_
  refine Xb rfl (v_leq rfl rfl) fun b24 hb24 => ?_
  refine Xm ?_
  refine Xi rfl rfl rfl (fun hg0 => by subst hg0; (try simp only [Qy]); exact v_fieldAddr (off' := 2) u85 rfl sz4 (by decide) rfl rfl) ?_
  refine Xj rfl rfl rfl (fun hg0 => by subst hg0; (try simp only [Qy]); exact v_load u4 rfl rfl (at_ownL (vs := entC es[k]) (.head _) rfl)) fun b27 hb27 => ?_
  refine Xj rfl rfl rfl (fun hg0 => by subst hg0; (try simp only [Qy]); exact v_not rfl) fun b28 hb28 => ?_
  refine Xb rfl (v_and rfl rfl) fun b29 hb29 => ?_
  refine Ze (Zt ?_)
  refine w_cond rfl (fun hc29 => ?_) (fun hc29 => ?_)
  ·have hc := hc29
   simp only [hb29, hb28, hb27, hb24, Bool.and_eq_true, Bool.not_eq_true', decide_eq_true_eq] at hc
   obtain ⟨hjt, hsf⟩ := hc
   have hdy := day_rng hq (show 0 ≤ (es[k].fr + (j : Nat)) by omega) (by omega)
   refine w_skip (Zt (Zs (w_block (Zs (Zr ?_)))))
   refine Xm ?_
   refine Xv rfl (v_nilCheck rfl) ?_
   refine Xv rfl (v_fieldAddr (off' := 0) u61 rfl sz26 (by decide) rfl rfl) ?_
   refine Xv rfl (v_loadN (vs := ([Value.int .i64 p.first, Value.int .i64 p.days, Value.slice A1 p.lv.length c1, Value.slice A2 p.st.length c2, Value.slice A3 es.length c3]).take 4) u26 rfl sz26 rfl (fun j hj => at_ro (.tail _ (.head _)) trivial (by match j, hj with | 0, _ => exact hS.cells 0 (by simp) | 1, _ => exact hS.cells 1 (by simp) | 2, _ => exact hS.cells 2 (by simp) | 3, _ => exact hS.cells 3 (by simp)))) ?_
   refine Xm ?_
   refine x_call (R := fun v wa wb => ∃ A c, v = .agg #[.slice A p.lv.length c, .int .i64 (p.first + (es[k].fr + (j : Nat)) * p.days)] ∧ sliceW (fun b => wa.heap.size ≤ b) wb (.slice A p.lv.length c) (numsP p (es[k].fr + (j : Nat)))) rfl rfl rfl Tryz.func50 Zk rfl (fun w1 hw1 => c_issueW p (es[k].fr + (j : Nat)) w1 (patRd.keep (⟨hS.fst, hS.dys, hS.lvs, hS.sts⟩ : patRd (fun _ => True) w p (.slice A1 p.lv.length c1) (.slice A2 p.st.length c2)) (Kept.later (hw1.base (by simp)))) hq (by omega) (by omega)) fun v37 wa wb hwa hwl hR => ?_
   obtain ⟨A8, c8, rfl, hR9⟩ := id hR
   obtain ⟨css, hcl, hrow, hrd⟩ := hT'
   rw [hln] at hcl hrow
   refine x_alloc rfl rfl rfl zr48 ?_
   intro p7
   refine x_store0 [] rfl rfl rfl rfl sz48 rfl rfl ?_
   refine Ze (Zt (Zs (Zr ?_)))
   refine Xv rfl (v_fieldAddr (off' := 3) u85 rfl sz3 (by decide) rfl rfl) ?_
   refine Xv rfl (v_load u3 rfl rfl (at_ownL (vs := entC es[k]) (.tail _ (.head _)) rfl)) ?_
   refine Xv rfl (v_fieldAddr (off' := 1) u48 rfl sz3 (by decide) rfl rfl) ?_
   refine x_store (cs := [Value.slice A8 p.lv.length c8, Value.int .i64 (p.first + (es[k].fr + (j : Nat)) * p.days)]) (off := 1) (e := 48) (l2 := (p5, Obj.cells (entC es[k]).toArray 85 (0, 0)) :: rowO 48 R') [] rfl rfl rfl rfl sz3 rfl (by show 2 ≤ 2; decide) ?_
   refine Ze (Zt (Zr ?_))
   refine Xm ?_
   refine Xv rfl (v_load_blk (e := 48) (fz := (0, 0)) (cs := ([Value.slice A8 p.lv.length c8, Value.int .i64 es[k].day]).toArray) u48 rfl rfl (.head _) (by exact sz48)) ?_
   refine x_buildSliceL (cs := [Value.slice A8 p.lv.length c8, Value.int .i64 es[k].day]) rfl rfl rfl u40 sz48 zr48 rfl rfl rfl ?_
   intro p43
   refine x_append (e := 48) [(p43, Obj.cells ([Value.slice A8 p.lv.length c8, Value.int .i64 es[k].day]).toArray 48), (p7, Obj.cells ([Value.slice A8 p.lv.length c8, Value.int .i64 es[k].day]).toArray 48), (p5, Obj.cells (entC es[k]).toArray 85 (0, 0))] (l2 := []) R' (len := (heldP p (es.take k)).length + j) (xs := css.flatten) rfl rfl rfl rfl (by simp only [List.append_nil]; rfl) hrow u40 ap48 rfl rfl (m := 1) (news := [Value.slice A8 p.lv.length c8, Value.int .i64 es[k].day]) (fun i hi => at_ownL (vs := [Value.slice A8 p.lv.length c8, Value.int .i64 es[k].day]) (.head _) (by rw [Nat.zero_add]; exact List.getElem?_eq_getElem hi)) rfl Zx (by omega) fun R2 hR2 => ?_
   rw [List.append_nil]
   refine Xa ?_
   refine Ze (b_norm (Zt (Zr ?_)))
   refine Xm ?_
   refine Xv rfl (v_addi rfl rfl rfl Zo) ?_
   refine Xa ?_
   refine Ze ?_
   refine s_fix ((p5, Obj.cells (entC es[k]).toArray 85 (0, 0)) :: rowO 48 R2) (((List.Sublist.refl _).cons _).cons _) (fun w0 hm0 => ?_)
   have hT2 := snocN (T := tyIssW) (D := newD w ((p5, Obj.cells (entC es[k]).toArray 85 (0, 0)) :: rowO 48 R2)) (ws := w0) (x := (⟨numsP p (es[k].fr + (j : Nat)), es[k].day⟩ : Iss)) hln hcl (fun j h1 h2 => tyIssW.keep (hrd j h1 h2) (Kept.frz hm0 (((List.Sublist.refl _).cons _).cons _) (by simp))) hR2 ⟨_, rfl, hR9.keep (Kept.made2 (hm0.less (((List.Sublist.refl _).cons _).cons _) (fun _ h => h)) (.head _) (fun k hk p hp he => by have := hwa.lt hp; omega) (hwa.base (by simp)).size), e5⟩
   exact l_norm (x := (R', j, ws')) (μ := fun q : RowS × Nat × World => (es[k].to - es[k].fr + 1).toNat - q.2.1) (R2, j + 1, w0) ⟨by dsimp only; omega, (fun h => by rw [hsf] at h; cases h), by dsimp only; rw [heldJ_succ, ← List.append_assoc]; exact hT2⟩ (by simp only; omega) (by dsimp only; rw [show es[k].fr + ((j + 1 : Nat) : Int) = es[k].fr + (j : Nat) + 1 by omega, show (heldP p (es.take k)).length + (j + 1) = (heldP p (es.take k)).length + j + 1 by omega]; exact Zu) (fun w1 h => h.less (List.Sublist.refl _) (fun q hq => by simp at hq ⊢; rcases hq with h | h; (· exact .inl h); simp [h]))
  have hc := hc29
  simp only [hb29, hb28, hb27, hb24, Bool.and_eq_false_iff, Bool.not_eq_false', decide_eq_false_iff_not] at hc
  have hE : heldE p es[k] = heldJ p es[k] j := by
   unfold heldE
   rcases hsq : es[k].sk with _ | _
   ·rw [if_neg Bool.false_ne_true]
    rcases hc with hc | hc
    ·congr 1; omega
    rw [hsq] at hc; cases hc
   rw [if_pos rfl, hsk hsq]; rfl
  refine w_exit ?_
  refine t_exit ?_
  refine t_exit ?_
  refine b_hit ?_
  refine b_norm (Zt (Zr ?_))
  refine Xv rfl (v_addi rfl rfl rfl Zo) ?_
  refine Xm ?_
  refine Ze ?_
  refine s_fix (rowO 48 R') (List.sublist_cons_self _ _) (fun w0 hm0 => ?_)
  have hT2 := hT'.keep (Kept.frz hm0 (List.sublist_cons_self _ _) (by simp))
  have hsn := heldP_snoc (p := p) hkl
  rw [hE] at hsn
  exact l_norm (x := (R, k, ws)) (μ := fun q : RowS × Nat × World => es.length - q.2.1) (R', k + 1, w0) ⟨hkl, by dsimp only; rw [hsn]; exact hT2⟩ (by simp only; omega) (by dsimp only; rw [hsn, hln]; exact Zu) (fun w1 h => h.less (List.Sublist.refl _) (fun q hq => by simp at hq ⊢; rcases hq with h | h; (· exact .inl h); simp [h]))
 simp only [hb16, Qz, ne_eq] at hc16
 obtain rfl : k = es.length := by omega
 rw [List.take_length] at hT
 refine w_exit ?_
 refine t_exit ?_
 refine t_exit ?_
 refine b_hit ?_
 refine Zt (Zs (Zr ?_))
 refine Xm ?_
 refine Xa ?_
 refine Ze (Zt (w_ret ?_))
 refine ret1 rfl rfl (fun w' hm => ⟨R, by rw [List.take_length], hm.base (by simp), (fun q hq => ⟨hm.own_at q hq, hm.newer (by simp) hq⟩), ?_⟩)
 exact hT.keep (Kept.frz hm (List.Sublist.refl _) (.head _))
set_option maxHeartbeats 2000000 in
theorem c_MissW {v1 v2 v3 : Value} {bs : Nat} (p : Pat) (es : List Ent) (day : Int) (w : World) (hS : SerRd w bs p es v1 v2 v3) (hok : ∀ x ∈ es, entOK x) (hlen : es.length ≤ 100000) (hday : in64 day) (hL : LD w) :
  Calls Tryz.prog 17 #[.pointer (some ⟨bs, 0, none⟩), .int .i64 day] w fun e w' => ∃ R, e = .returned (rowV R (missP p es day).length) ∧ Later w w' ∧ (∀ q ∈ rowO 48 R, w'.heap[q.1]? = some q.2 ∧ w.heap.size ≤ q.1) ∧ RowT tyIssW (newD w (rowO 48 R)) w' R (missP p es day) := by
 obtain ⟨A1, c1, rfl, hlc1, hmx1, hB1⟩ := id hS.lvs
 obtain ⟨A2, c2, rfl, hlc2, hmx2, hB2⟩ := id hS.sts
 obtain ⟨A3, c3, rfl, hlc3, hmx3, hB3⟩ := id hS.ent
 refine enter (vs := [.pointer (some ⟨bs, 0, none⟩), .int .i64 day]) Tryz.func17 rfl Tryz.ntmps17 rfl ?_
 refine Zs (Zr ?_)
 refine Xa ?_
 refine Ze (Zt (Zs (Zs (Zr ?_))))
 refine Xm ?_
 refine Xb rfl (v_pnil (o := some ⟨bs, 0, none⟩) u28 rfl rfl) fun b12 hb12 => ?_
 refine Xm ?_
 refine Xg ?_
 refine Xi rfl rfl rfl (fun hg0 => by subst hg0; (try simp only [Qy]); exact v_nilCheck rfl) ?_
 refine Xi rfl rfl rfl (fun hg0 => by subst hg0; (try simp only [Qy]); exact v_fieldAddr (off' := 0) u61 rfl sz26 (by decide) rfl rfl) ?_
 refine Xi rfl rfl rfl (fun hg0 => by subst hg0; (try simp only [Qy]); exact v_loadN (vs := ([Value.int .i64 p.first, Value.int .i64 p.days, Value.slice A1 p.lv.length c1, Value.slice A2 p.st.length c2, Value.slice A3 es.length c3]).take 4) u26 rfl sz26 rfl (fun j hj => at_ro (.head _) trivial (by match j, hj with | 0, _ => exact hS.cells 0 (by simp) | 1, _ => exact hS.cells 1 (by simp) | 2, _ => exact hS.cells 2 (by simp) | 3, _ => exact hS.cells 3 (by simp)))) ?_
 refine x_call_ifb [] rfl rfl rfl rfl rfl Tryz.func33 Zk (fun hg => by obtain ⟨hg0, _⟩ := hg; subst hg0; (try simp only [Qy]); refine ⟨_, rfl, ?_⟩; exact fun w1 hw1 => c_Right p w1 (patRd.keep (⟨hS.fst, hS.dys, hS.lvs, hS.sts⟩ : patRd (fun _ => True) w p (.slice A1 p.lv.length c1) (.slice A2 p.st.length c2)) (Kept.later (hw1.base (by simp)))) (hL.later (hw1.base (by simp)))) fun b18 hb18 => ?_
 refine Xj rfl rfl rfl (fun hg0 => by subst hg0; (try simp only [Qy]); exact v_not rfl) fun b19 hb19 => ?_
 refine Xb rfl (v_or rfl rfl) fun b20 hb20 => ?_
 refine Ze (Zt ?_)
 refine w_cond rfl (fun hc20 => ?_) (fun hc20 => ?_)
 ·have hno : ¬rightQ p := fun h => by rw [hb20, hb19, hb18, hb12, decide_eq_true h] at hc20; simp at hc20
  refine Zs (Zr ?_)
  refine Xa ?_
  refine Ze (Zt (w_ret (t_ret ?_)))
  refine ret1 rfl rfl (fun w' hm => ⟨none, by rw [show missP p es day = [] from if_neg hno]; rfl, hm.base (by simp), (fun q hq => by cases hq), ?_⟩)
  rw [show missP p es day = [] from if_neg hno]
  exact RowT.nil
 have hq : rightQ p := by
  rw [hb20, hb19, hb18, hb12] at hc20
  simpa using hc20
 obtain ⟨⟨hd0, hd1⟩, hl0, hl1⟩ := dlyP_rng p hok
 have hff := hq.2.2.2
 unfold okDay at hff
 refine w_skip (Zt (Zs (Zr ?_)))
 refine Xa ?_
 refine Ze (Zt (Zs (Zr ?_)))
 refine Xm ?_
 refine x_callv (v := .tuple #[.int .i64 (dlyP p es).1, .int .i64 (dlyP p es).2]) rfl rfl rfl Tryz.func49 Zk rfl (fun w1 hw1 => c_delay p es w1 (hS.keep (hw1.base (by simp))) (fun _ => hq) hok hlen) ?_
 refine Xm ?_
 refine Xv rfl (v_extract rfl rfl) ?_
 refine Xv rfl (v_extract rfl rfl) ?_
 refine Xa ?_
 refine Xa ?_
 refine Ze (Zt (Zs (Zr ?_)))
 refine Xm ?_
 refine Xv rfl (v_nilCheck rfl) ?_
 refine Xv rfl (v_fieldAddr (off' := 4) u61 rfl sz59 (by decide) rfl rfl) ?_
 refine Xv rfl (v_load u59 rfl rfl (at_ro (.head _) trivial (hS.cells 4 (by simp)))) ?_
 refine Xa ?_
 refine Ze (Zt (Zs (Zs (Zr ?_))))
 refine Xa ?_
 refine Ze (Zt (w_block ?_))
 refine w_fix (rowO 48 none) (List.Sublist.refl _) (fun w0 hm0 => ?_)
 refine w_loop (σ := List Iss × RowS × Int × List Ent × Option Addr × Nat × World) (fun x => (0 ≤ x.2.2.1 ∧ x.2.2.1 ≤ 100000) ∧ x.1.length ≤ 1000 ∧ (∀ e ∈ x.2.2.2.1, entOK e) ∧ sliceRd tyEnt (fun _ => True) w (.slice x.2.2.2.2.1 x.2.2.2.1.length x.2.2.2.2.2.1) x.2.2.2.1 ∧ x.1 ++ missF p (dlyP p es).1 (dlyP p es).2 day (missMu x.2.2.1 x.2.2.2.1) x.2.2.1 x.2.2.2.1 x.1.length = missP p es day ∧ RowT tyIssW (newD w (rowO 48 x.2.1)) x.2.2.2.2.2.2 x.2.1 x.1) (fun x => [(0, .pointer (some ⟨bs, 0, none⟩)), (1, Value.int .i64 day), (5, rowV x.2.1 x.1.length), (6, Value.int .i64 (dlyP p es).1), (7, Value.int .i64 (dlyP p es).2), (8, .slice x.2.2.2.2.1 x.2.2.2.1.length x.2.2.2.2.2.1), (9, Value.int .i64 x.2.2.1)]) (fun x => rowO 48 x.2.1) (fun x => (x.2.2.2.2.2.2, notOwn (rowO 48 x.2.1)) :: [(w, fun _ => True)]) (fun x => missMu x.2.2.1 x.2.2.2.1) (([], none, 0, es, A3, c3, w0)) (⟨⟨Int.le_refl _, show (0 : Int) ≤ 100000 by decide⟩, show 0 ≤ 1000 by decide, hok, hS.ent, by unfold missP; rw [if_pos hq]; rfl, RowT.nil⟩) (l_start Zu (fun _ h => h)) ?_
 rintro ⟨out, R, k, l, A8, c8, ws⟩ ⟨⟨hk0, hk1⟩, hol, hle, hsl, hmf, hT⟩
 refine w_state ([(0, .pointer (some ⟨bs, 0, none⟩)), (1, Value.int .i64 day), (5, rowV R out.length), (6, Value.int .i64 (dlyP p es).1), (7, Value.int .i64 (dlyP p es).2), (8, .slice A8 l.length c8), (9, Value.int .i64 k)]) (rowO 48 R) ((ws, notOwn (rowO 48 R)) :: [(w, fun _ => True)]) ?_
 dsimp only at hk0 hk1 hol hle hsl hmf hT
 have hlc8 : l.length ≤ c8 := by obtain ⟨_, _, he9, h9, _, _⟩ := id hsl; injection he9 with _ _ e39; omega
 refine Zs (Zs (Zr ?_))
 refine Xm ?_
 refine Xb rfl (v_lss rfl rfl) fun b31 hb31 => ?_
 refine Xm ?_
 refine Xg ?_
 refine Xi rfl rfl rfl (fun hg0 => by subst hg0; (try simp only [Qy]); exact v_len_slice u40 rfl) ?_
 refine Xj rfl rfl rfl (fun hg0 => by subst hg0; (try simp only [Qy]); exact v_lss rfl rfl) fun b35 hb35 => ?_
 refine Xb rfl (v_and rfl rfl) fun b36 hb36 => ?_
 refine Ze (Zt ?_)
 refine w_cond rfl (fun hc36 => ?_) (fun hc36 => ?_)
 ·simp only [hb36, hb35, hb31, Qz, ne_eq] at hc36
  have hk2 : k < 100000 := by omega
  have hon : out.length < 1000 := by omega
  refine w_skip (Zt (Zs (w_block (Zs (Zs (Zr ?_))))))
  obtain ⟨bE, oE, hE0⟩ := ent_head hsl
  refine Xm ?_
  refine Xv rfl (v_len_slice u59 rfl) ?_
  refine Xb rfl (v_gtr rfl rfl) fun b41 hb41 => ?_
  refine Xm ?_
  refine Xg ?_
  refine Xg ?_
  refine Xi rfl rfl rfl (fun hg0 => by subst hg0; (try simp only [Qy]); have hll : 0 < l.length := (by have := of_decide_eq_true hb41.symm; omega); exact v_indexAddr (j := 0) u59 sz85 (congrArg (fun A => some (Value.slice A l.length c8)) (hE0 hll).1) rfl (hll) rfl) ?_
  refine Xi rfl rfl rfl (fun hg0 => by subst hg0; (try simp only [Qy]); exact v_fieldAddr u85 rfl sz3 (by decide) rfl rfl) ?_
  refine Xi rfl rfl rfl (fun hg0 => by subst hg0; (try simp only [Qy]); have hll : 0 < l.length := (by have := of_decide_eq_true hb41.symm; omega); exact v_load u3 rfl rfl (at_ro (.tail _ (.head _)) trivial (hE0 hll).2.1)) ?_
  refine Xj rfl rfl rfl (fun hg0 => by subst hg0; (try simp only [Qy]); exact v_geq rfl rfl) fun b48 hb48 => ?_
  refine Xb rfl (v_and rfl rfl) fun b49 hb49 => ?_
  refine Ze (Zt ?_)
  refine w_cond rfl (fun hc49 => ?_) (fun hc49 => ?_)
  ·have hc := hc49
   simp only [hb49, hb48, hb41, Bool.and_eq_true, decide_eq_true_eq] at hc
   have hll : 0 < l.length := by omega
   obtain ⟨e, r, rfl⟩ : ∃ e r, l = e :: r := by
    cases l with
    | nil => simp at hll
    | cons e r => exact ⟨e, r, rfl⟩
   have hge : k ≥ e.fr := hc.2
   obtain ⟨x1, x2, x3, x4, _⟩ := hle e (List.mem_cons_self ..)
   refine Zs (Zr ?_)
   refine Xm ?_
   refine Xv rfl (v_indexAddr (j := 0) u59 sz85 (congrArg (fun A => some (Value.slice A (e :: r).length c8)) (hE0 hll).1) rfl (hll) rfl) ?_
   refine Xv rfl (v_fieldAddr u85 rfl sz3 (by decide) rfl rfl) ?_
   refine Xv (v := Value.int .i64 e.to) rfl (v_load u3 rfl rfl (at_ro (.tail _ (.head _)) trivial (hE0 hll).2.2)) ?_
   refine Xa ?_
   refine Ze (Zt (Zs (Zr ?_)))
   refine Xm ?_
   refine Xv rfl (v_scut_from (i := 1) u59 sz85 rfl rfl (by rw [List.length_cons]; omega) hlc8) ?_
   refine Xa ?_
   refine Ze (Zt ?_)
   refine w_exit ?_
   refine t_exit ?_
   refine b_hit ?_
   refine Zt (Zr ?_)
   refine Xm ?_
   refine Xv rfl (v_addi rfl rfl rfl Zo) ?_
   refine Xa ?_
   refine Ze ?_
   have hd1 := sliceRd.drop1 hsl
   have hmf2 : missF p (dlyP p es).1 (dlyP p es).2 day (missMu k (e :: r)) k (e :: r) out.length = missF p (dlyP p es).1 (dlyP p es).2 day (missMu (e.to + 1) r) (e.to + 1) r out.length := by
    unfold missMu
    rw [missF, if_pos ⟨hk2, hon⟩]
    (try dsimp only)
    rw [if_pos hge]
    exact missF_mono _ _ _ _ _ _ _ _ _ (fun y hy => hle y (List.mem_cons_of_mem _ hy)) (by omega) (Nat.le_refl _) (by rw [List.length_cons, Nat.add_mul]; omega)
   rw [hmf2] at hmf
   exact l_norm (x := (out, R, k, e :: r, A8, c8, ws)) (μ := fun x : List Iss × RowS × Int × List Ent × Option Addr × Nat × World => missMu x.2.2.1 x.2.2.2.1) (out, R, e.to + 1, r, (if c8 = 1 then A8 else A8.map (fun a => a.add (1 * 4))), c8 - 1, ws) ⟨⟨by dsimp only; omega, by dsimp only; omega⟩, hol, fun y hy => hle y (List.mem_cons_of_mem _ hy), hd1, hmf, hT⟩ (by unfold missMu; dsimp only; rw [List.length_cons, Nat.add_mul]; omega) Zu (fun _ h => h)
  have hc := hc49
  simp only [hb49, hb48, hb41, Bool.and_eq_false_iff, decide_eq_false_iff_not] at hc
  have hne : ∀ e r, l = e :: r → ¬k ≥ e.fr := fun e r hlr hk => by
   subst hlr
   rcases hc with hc | hc
   ·rw [List.length_cons] at hc; omega
   exact hc hk
  have hdy := day_rng hq hk0 (by omega)
  have hstep : missF p (dlyP p es).1 (dlyP p es).2 day (missMu k l) k l out.length = if (p.first + k * p.days + (if k > (dlyP p es).2 then (dlyP p es).1 else 0)) > day then [] else ⟨numsP p k, (p.first + k * p.days + (if k > (dlyP p es).2 then (dlyP p es).1 else 0))⟩ :: missF p (dlyP p es).1 (dlyP p es).2 day (missMu (k + 1) l) (k + 1) l (out.length + 1) := by
   unfold missMu
   cases l with
   | nil =>
    show missF p (dlyP p es).1 (dlyP p es).2 day ((100000 - k).toNat + 0 * 200000 + 1) k [] out.length = _
    rw [missF, if_pos ⟨hk2, hon⟩]
    have e1 : (100000 - k).toNat = (100000 - (k + 1)).toNat + ([] : List Ent).length * 200000 + 1 := by simp; omega
    rw [e1]
   | cons e r =>
    show missF p (dlyP p es).1 (dlyP p es).2 day ((100000 - k).toNat + (e :: r).length * 200000 + 1) k (e :: r) out.length = _
    rw [missF, if_pos ⟨hk2, hon⟩]
    (try dsimp only)
    rw [if_neg (hne e r rfl)]
    have e1 : (100000 - k).toNat + (e :: r).length * 200000 = (100000 - (k + 1)).toNat + (e :: r).length * 200000 + 1 := by omega
    rw [e1]
  refine w_skip (Zt (Zs (Zr ?_)))
  refine Xm ?_
  refine Xv rfl (v_nilCheck rfl) ?_
  refine Xv rfl (v_fieldAddr (off' := 0) u61 rfl sz26 (by decide) rfl rfl) ?_
  refine Xv rfl (v_loadN (vs := ([Value.int .i64 p.first, Value.int .i64 p.days, Value.slice A1 p.lv.length c1, Value.slice A2 p.st.length c2, Value.slice A3 es.length c3]).take 4) u26 rfl sz26 rfl (fun j hj => at_ro (.tail _ (.head _)) trivial (by match j, hj with | 0, _ => exact hS.cells 0 (by simp) | 1, _ => exact hS.cells 1 (by simp) | 2, _ => exact hS.cells 2 (by simp) | 3, _ => exact hS.cells 3 (by simp)))) ?_
  refine Xm ?_
  refine x_call (R := fun v wa wb => ∃ A c, v = .agg #[.slice A p.lv.length c, .int .i64 (p.first + k * p.days)] ∧ sliceW (fun b => wa.heap.size ≤ b) wb (.slice A p.lv.length c) (numsP p k)) rfl rfl rfl Tryz.func50 Zk rfl (fun w1 hw1 => c_issueW p k w1 (patRd.keep (⟨hS.fst, hS.dys, hS.lvs, hS.sts⟩ : patRd (fun _ => True) w p (.slice A1 p.lv.length c1) (.slice A2 p.st.length c2)) (Kept.later (hw1.base (by simp)))) hq hk0 (by omega)) fun v61 wa wb hwa hwl hR => ?_
  obtain ⟨AN, cN, rfl, hR9⟩ := id hR
  refine x_alloc rfl rfl rfl zr48 ?_
  intro p10
  refine x_store0 [] rfl rfl rfl rfl sz48 rfl rfl ?_
  refine Ze (Zt ?_)
  refine w_seq_cut (σ := Unit) (fun q => True) (fun q => [(0, .pointer (some ⟨bs, 0, none⟩)), (1, Value.int .i64 day), (5, rowV R out.length), (6, Value.int .i64 (dlyP p es).1), (7, Value.int .i64 (dlyP p es).2), (8, .slice A8 l.length c8), (9, Value.int .i64 k), (10, .pointer (some ⟨p10, 0, none⟩))]) (fun q => (p10, Obj.cells ([Value.slice AN p.lv.length cN, Value.int .i64 ((p.first + k * p.days + (if k > (dlyP p es).2 then (dlyP p es).1 else 0)))]).toArray 48 (0, 0)) :: rowO 48 R) (fun q => (wb, notOwn (rowO 48 R)) :: (ws, notOwn (rowO 48 R)) :: [(w, fun _ => True)]) ?_ ?_
  ·refine w_seq ?_
   refine Zr ?_
   refine Xm ?_
   refine Xm ?_
   refine Xb rfl (v_gtr rfl rfl) fun b64 hb64 => ?_
   refine Ze (Zt ?_)
   refine w_cond rfl (fun hc64 => ?_) (fun hc64 => ?_)
   ·simp only [hb64, Qz, ne_eq] at hc64
    have hadd : (if k > (dlyP p es).2 then (dlyP p es).1 else 0) = (dlyP p es).1 := if_pos (by omega)
    refine Zr ?_
    refine Xv rfl (v_fieldAddr (off' := 1) u48 rfl sz3 (by decide) rfl rfl) ?_
    refine Xv rfl (v_load u3 rfl rfl (at_ownL (vs := [Value.slice AN p.lv.length cN, Value.int .i64 (p.first + k * p.days)]) (.head _) rfl)) ?_
    refine Xm ?_
    refine Xv rfl (v_addi rfl rfl rfl Zo) ?_
    refine Xv rfl (v_fieldAddr (off' := 1) u48 rfl sz3 (by decide) rfl rfl) ?_
    refine x_store (cs := [Value.slice AN p.lv.length cN, Value.int .i64 (p.first + k * p.days)]) (off := 1) (e := 48) (l2 := rowO 48 R) [] rfl rfl rfl rfl sz3 rfl (by show 2 ≤ 2; decide) ?_
    refine Ze ?_
    rw [show p.first + k * p.days + (dlyP p es).1 = (p.first + k * p.days + (if k > (dlyP p es).2 then (dlyP p es).1 else 0)) from by rw [hadd]]
    exact c_norm () trivial Zu (fun _ h => h)
   simp only [hb64, Qz, ne_eq] at hc64
   have hadd : (if k > (dlyP p es).2 then (dlyP p es).1 else 0) = 0 := if_neg (by omega)
   refine w_skip ?_
   have e9 : (p10, Obj.cells (Value.agg #[Value.slice AN p.lv.length cN, Value.int .i64 (p.first + k * p.days)]).cells 48) = (p10, Obj.cells ([Value.slice AN p.lv.length cN, Value.int .i64 ((p.first + k * p.days + (if k > (dlyP p es).2 then (dlyP p es).1 else 0)))]).toArray 48 (0, 0)) := by rw [show (p.first + k * p.days + (if k > (dlyP p es).2 then (dlyP p es).1 else 0)) = p.first + k * p.days from by rw [hadd, Int.add_zero]]; rfl
   exact c_norm () trivial Zu (fun _ h => h.to (by first | rfl | (rw [show (p.first + k * p.days + (if k > (dlyP p es).2 then (dlyP p es).1 else 0)) = p.first + k * p.days from by rw [hadd, Int.add_zero]]; rfl)))
  rintro _ _
  refine Zs (Zs (Zr ?_))
  refine Xv rfl (v_fieldAddr (off' := 1) u48 rfl sz3 (by decide) rfl rfl) ?_
  refine Xv rfl (v_load u3 rfl rfl (at_ownL (vs := [Value.slice AN p.lv.length cN, Value.int .i64 ((p.first + k * p.days + (if k > (dlyP p es).2 then (dlyP p es).1 else 0)))]) (.head _) rfl)) ?_
  refine Xm ?_
  refine Xb rfl (v_gtr rfl rfl) fun b73 hb73 => ?_
  refine Ze (Zt ?_)
  refine w_cond rfl (fun hc73 => ?_) (fun hc73 => ?_)
  ·simp only [hb73, Qz, ne_eq] at hc73
   rw [if_pos (by omega)] at hstep
   rw [hstep, List.append_nil] at hmf
   subst hmf
   refine w_exit ?_
   refine t_exit ?_
   refine b_miss rfl ?_
   refine t_exit ?_
   refine t_exit ?_
   refine b_hit ?_
   refine Zt (Zs (Zr ?_))
   refine Xm ?_
   refine Xa ?_
   refine Ze (Zt (w_ret ?_))
   refine ret1 rfl rfl (fun w' hm => ⟨R, rfl, hm.base (by simp), (fun q hq => ⟨hm.own_at q (List.mem_cons_of_mem _ hq), hm.newer (by simp) (List.mem_cons_of_mem _ hq)⟩), ?_⟩)
   exact hT.keep (Kept.frz (own' := rowO 48 R) hm (List.sublist_cons_self _ _) (.tail _ (.head _)))
  simp only [hb73, Qz, ne_eq] at hc73
  rw [if_neg (by omega)] at hstep
  refine w_skip (Zt (Zr ?_))
  refine Xm ?_
  refine Xv rfl (v_load_blk (e := 48) (fz := (0, 0)) (cs := ([Value.slice AN p.lv.length cN, Value.int .i64 ((p.first + k * p.days + (if k > (dlyP p es).2 then (dlyP p es).1 else 0)))]).toArray) u48 rfl rfl (.head _) (by exact sz48)) ?_
  refine x_buildSliceL (cs := [Value.slice AN p.lv.length cN, Value.int .i64 ((p.first + k * p.days + (if k > (dlyP p es).2 then (dlyP p es).1 else 0)))]) rfl rfl rfl u40 sz48 zr48 rfl rfl rfl ?_
  intro p76
  obtain ⟨css, hcl, hrow, hrd⟩ := hT
  refine x_append (e := 48) [(p76, Obj.cells ([Value.slice AN p.lv.length cN, Value.int .i64 ((p.first + k * p.days + (if k > (dlyP p es).2 then (dlyP p es).1 else 0)))]).toArray 48), (p10, Obj.cells ([Value.slice AN p.lv.length cN, Value.int .i64 ((p.first + k * p.days + (if k > (dlyP p es).2 then (dlyP p es).1 else 0)))]).toArray 48)] (l2 := []) R (len := out.length) (xs := css.flatten) rfl rfl rfl rfl (by simp only [List.append_nil]; rfl) hrow u40 ap48 rfl rfl (m := 1) (news := [Value.slice AN p.lv.length cN, Value.int .i64 ((p.first + k * p.days + (if k > (dlyP p es).2 then (dlyP p es).1 else 0)))]) (fun i hi => at_ownL (vs := [Value.slice AN p.lv.length cN, Value.int .i64 ((p.first + k * p.days + (if k > (dlyP p es).2 then (dlyP p es).1 else 0)))]) (.head _) (by rw [Nat.zero_add]; exact List.getElem?_eq_getElem hi)) rfl Zx (by omega) fun R2 hR2 => ?_
  rw [List.append_nil]
  refine Xa ?_
  refine Ze (b_norm (Zt (Zr ?_)))
  refine Xm ?_
  refine Xv rfl (v_addi rfl rfl rfl Zo) ?_
  refine Xa ?_
  refine Ze ?_
  refine s_fix (rowO 48 R2) (((List.Sublist.refl _).cons _).cons _) (fun w0 hm0 => ?_)
  have hT2 := snocN (T := tyIssW) (D := newD w (rowO 48 R2)) (ws := w0) (x := (⟨numsP p k, (p.first + k * p.days + (if k > (dlyP p es).2 then (dlyP p es).1 else 0))⟩ : Iss)) rfl hcl (fun j h1 h2 => tyIssW.keep (hrd j h1 h2) (Kept.frz hm0 (((List.Sublist.refl _).cons _).cons _) (by simp))) hR2 ⟨_, rfl, hR9.keep (Kept.made2 (hm0.less (((List.Sublist.refl _).cons _).cons _) (fun _ h => h)) (.head _) (fun k hk p hp he => by have := hwa.lt hp; omega) (hwa.base (by simp)).size), by unfold in64; dsimp only; omega⟩
  rw [hstep] at hmf
  exact l_norm (x := (out, R, k, l, A8, c8, ws)) (μ := fun x : List Iss × RowS × Int × List Ent × Option Addr × Nat × World => missMu x.2.2.1 x.2.2.2.1) (out ++ [⟨numsP p k, (p.first + k * p.days + (if k > (dlyP p es).2 then (dlyP p es).1 else 0))⟩], R2, k + 1, l, A8, c8, w0) ⟨⟨by dsimp only; omega, by dsimp only; omega⟩, by dsimp only; rw [List.length_append, List.length_singleton]; omega, hle, hsl, by dsimp only; rw [List.length_append, List.length_singleton, List.append_assoc]; exact hmf, hT2⟩ (by unfold missMu; dsimp only; omega) (by dsimp only; rw [List.length_append, List.length_singleton]; exact Zu) (fun w1 h => h.less (List.Sublist.refl _) (fun q hq => by simp at hq ⊢; rcases hq with h | h; (· exact .inl h); simp [h]))
 simp only [hb36, hb35, hb31, Qz, ne_eq] at hc36
 have hend : missF p (dlyP p es).1 (dlyP p es).2 day (missMu k l) k l out.length = [] := by
  unfold missMu missF
  rw [if_neg (by omega)]
 rw [hend, List.append_nil] at hmf
 subst hmf
 refine w_exit ?_
 refine t_exit ?_
 refine t_exit ?_
 refine b_hit ?_
 refine Zt (Zs (Zr ?_))
 refine Xm ?_
 refine Xa ?_
 refine Ze (Zt (w_ret ?_))
 refine ret1 rfl rfl (fun w' hm => ⟨R, rfl, hm.base (by simp), (fun q hq => ⟨hm.own_at q hq, hm.newer (by simp) hq⟩), ?_⟩)
 exact hT.keep (Kept.frz hm (List.Sublist.refl _) (.head _))
theorem c_MadeW (f d : Int) {D : Nat → Prop} {v : Value} {l : List Int} (w : World) (hf : in64 f) (hd : in64 d) (hl : sliceRd tyI D w v l) :
  Calls Tryz.prog 32 #[.int .i64 f, .int .i64 d, v] w fun e w' => ∃ v1 v2, e = .returned (.agg #[.int .i64 (madeP f d l).first, .int .i64 (madeP f d l).days, v1, v2]) ∧ Later w w' ∧ patRd (fun b => w.heap.size ≤ b) w' (madeP f d l) v1 v2 ∧ rowW (fun b => w.heap.size ≤ b) w' v1 (madeP f d l).lv.length ∧ rowW (fun b => w.heap.size ≤ b) w' v2 (madeP f d l).st.length := by
 obtain ⟨A, c, rfl, hlc, hmx, hA⟩ := id hl
 have f1 := Int.emod_nonneg f (show (10000 : Int) ≠ 0 by decide)
 have f2 := Int.emod_lt_of_pos f (show (0 : Int) < 10000 by decide)
 have d1 := Int.emod_nonneg d (show (10000 : Int) ≠ 0 by decide)
 have d2 := Int.emod_lt_of_pos d (show (0 : Int) < 10000 by decide)
 refine enter (vs := [.int .i64 f, .int .i64 d, .slice A l.length c]) Tryz.func32 rfl Tryz.ntmps32 rfl ?_
 refine Zs (Zr ?_)
 refine x_alloc rfl rfl rfl zr26 ?_
 intro p6
 refine Ze (Zt (Zs (Zr ?_)))
 refine Xm ?_
 refine x_callv (v := Value.int .i64 (f % 10000)) rfl rfl rfl Tryz.func15 Zk rfl (fun w1 hw1 => c_Md f 10000 w1 hf (by decide)) ?_
 refine Xv rfl (v_addi rfl rfl rfl Zo) ?_
 refine Xm ?_
 refine x_callv (v := Value.int .i64 (d % 10000)) rfl rfl rfl Tryz.func15 Zk rfl (fun w1 hw1 => c_Md d 10000 w1 hd (by decide)) ?_
 refine Xv rfl (v_addi rfl rfl rfl Zo) ?_
 refine x_buildSliceL (cs := [Value.int .i64 0]) rfl rfl rfl u22 sz3 zr3 rfl rfl rfl ?_
 intro p16
 refine Xm ?_
 refine x_callv (v := Value.int .i64 (f % 50)) rfl rfl rfl Tryz.func15 Zk rfl (fun w1 hw1 => c_Md f 50 w1 hf (by decide)) ?_
 refine x_buildSliceL (cs := [Value.int .i64 (f % 50)]) rfl rfl rfl u22 sz3 zr3 rfl rfl rfl ?_
 intro p19
 refine Xv rfl (v_buildL (places := [(0, 1), (1, 1), (2, 1), (3, 1)]) u26 zr26 Zk rfl rfl) ?_
 refine x_alloc rfl rfl rfl zr26 ?_
 intro p7
 refine x_store0 [] rfl rfl rfl rfl sz26 rfl rfl ?_
 refine Ze (Zt (Zs (Zs (Zr ?_))))
 refine Xa ?_
 refine Ze (Zt (w_block ?_))
 refine w_loop (σ := RowS × RowS × Nat) (fun x => x.2.2 ≤ 3 ∧ x.2.2 ≤ l.length ∧ rowOK 1 x.1 (x.2.2 + 1) ((0 :: madeL (l.take x.2.2)).map (Value.int .i64)) ∧ rowOK 1 x.2.1 (x.2.2 + 1) ((f % 50 :: madeS (l.take x.2.2)).map (Value.int .i64))) (fun x => [(2, Value.slice A l.length c), (6, .pointer (some ⟨p6, 0, none⟩)), (7, .pointer (some ⟨p7, 0, none⟩)), (8, Value.int .i64 (x.2.2 : Nat))]) (fun x => (p7, Obj.cells [Value.int .i64 (10000 + f % 10000), Value.int .i64 (1 + d % 10000), rowV x.1 (x.2.2 + 1), rowV x.2.1 (x.2.2 + 1)].toArray 26) :: (rowO 3 x.2.1 ++ (rowO 3 x.1 ++ [(p6, Obj.cells #[Value.int .i64 0, Value.int .i64 0, Value.slice none 0 0, Value.slice none 0 0] 26)]))) (fun x => [(w, fun _ => True)]) (fun x => 3 - x.2.2) ((some (p16, [Value.int .i64 0], 1), some (p19, [Value.int .i64 (f % 50)], 1), 0)) (⟨Nat.zero_le _, Nat.zero_le _, rowOK_lit (n := 1) (cs := [Value.int .i64 0]) rfl (by decide), rowOK_lit (n := 1) (cs := [Value.int .i64 (f % 50)]) rfl (by decide)⟩) (l_start Zu (fun _ h => h)) ?_
 rintro ⟨R, S, k⟩ ⟨hk, hkl, hR, hS⟩
 refine w_state ([(2, Value.slice A l.length c), (6, .pointer (some ⟨p6, 0, none⟩)), (7, .pointer (some ⟨p7, 0, none⟩)), (8, Value.int .i64 (k : Nat))]) ((p7, Obj.cells [Value.int .i64 (10000 + f % 10000), Value.int .i64 (1 + d % 10000), rowV R (k + 1), rowV S (k + 1)].toArray 26) :: (rowO 3 S ++ (rowO 3 R ++ [(p6, Obj.cells #[Value.int .i64 0, Value.int .i64 0, Value.slice none 0 0, Value.slice none 0 0] 26)]))) ([(w, fun _ => True)]) ?_
 dsimp only at hk hkl hR hS
 refine Zs (Zs (Zr ?_))
 refine Xm ?_
 refine Xm ?_
 refine Xv rfl (v_len_slice u22 rfl) ?_
 refine Xb rfl (v_lss rfl rfl) fun b24 hb24 => ?_
 refine Xm ?_
 refine Xg ?_
 refine Xj rfl rfl rfl (fun hg0 => by subst hg0; (try simp only [Qy]); exact v_lss rfl rfl) fun b27 hb27 => ?_
 refine Xb rfl (v_and rfl rfl) fun b28 hb28 => ?_
 refine Ze (Zt ?_)
 refine w_cond rfl (fun hc28 => ?_) (fun hc28 => ?_)
 ·simp only [hb28, hb27, hb24, Qz, ne_eq] at hc28
  have hk3 : k < 3 := by omega
  have hkl2 : k < l.length := by omega
  obtain ⟨b0, o0, hA0, _, hc0, hin⟩ := int_at hl hkl2
  unfold in64 at hin
  have em := Int.emod_nonneg l[k] (show (12 : Int) ≠ 0 by decide)
  have em2 := Int.emod_lt_of_pos l[k] (show (0 : Int) < 12 by decide)
  have hq12 : -9223372036854775808 ≤ l[k].tdiv 12 ∧ l[k].tdiv 12 ≤ 9223372036854775807 := tdiv_in hin (by decide)
  refine w_skip (Zt (Zs (w_block (Zs (Zr ?_)))))
  refine Xm ?_
  refine Xm ?_
  refine Xv rfl (v_indexAddr u22 sz3 (congrArg (fun A => some (Value.slice A l.length c)) hA0) rfl Zo rfl) ?_
  refine Xv rfl (v_load u3 rfl rfl (at_ro (.head _) trivial (by rw [Nat.mul_one]; exact hc0))) ?_
  refine x_callv (v := Value.int .i64 (l[k] % 12)) rfl rfl rfl Tryz.func15 Zk rfl (fun w1 hw1 => c_Md _ 12 w1 hin (by decide)) ?_
  refine Xv rfl (v_addi rfl rfl rfl Zo) ?_
  refine Xa ?_
  refine Ze (Zt (Zs (Zr ?_)))
  refine Xv rfl (v_fieldAddr (off' := 2) u26 rfl sz22 (by decide) rfl rfl) ?_
  refine Xv rfl (v_load u22 rfl rfl (at_ownL (.head _) rfl)) ?_
  refine Xm ?_
  refine x_buildSliceL (cs := [Value.int .i64 (1 + l[k] % 12)]) rfl rfl rfl u22 sz3 zr3 rfl rfl rfl ?_
  intro p40
  refine x_append (e := 3) ([(p40, Obj.cells [Value.int .i64 (1 + l[k] % 12)].toArray 3), (p7, Obj.cells [Value.int .i64 (10000 + f % 10000), Value.int .i64 (1 + d % 10000), rowV R (k + 1), rowV S (k + 1)].toArray 26)] ++ rowO 3 S) (l2 := [(p6, Obj.cells #[Value.int .i64 0, Value.int .i64 0, Value.slice none 0 0, Value.slice none 0 0] 26)]) R (len := k + 1) (xs := (0 :: madeL (l.take k)).map (Value.int .i64)) rfl rfl rfl rfl (by simp [List.append_assoc]) hR u22 ap3 rfl rfl (m := 1) (news := [Value.int .i64 (1 + l[k] % 12)]) (fun i hi => at_ownL (vs := [Value.int .i64 (1 + l[k] % 12)]) (.head _) (by rw [Nat.zero_add]; exact List.getElem?_eq_getElem hi)) rfl Zx (by omega) fun R' hR' => ?_
  refine Xv rfl (v_fieldAddr (off' := 2) u26 rfl sz22 (by decide) rfl rfl) ?_
  refine x_store (cs := [Value.int .i64 (10000 + f % 10000), Value.int .i64 (1 + d % 10000), rowV R (k + 1), rowV S (k + 1)]) (off := 2) (e := 26) (l2 := rowO 3 S ++ (rowO 3 R' ++ [(p6, Obj.cells #[Value.int .i64 0, Value.int .i64 0, Value.slice none 0 0, Value.slice none 0 0] 26)])) [(p40, Obj.cells [Value.int .i64 (1 + l[k] % 12)].toArray 3)] rfl rfl rfl (by simp [List.append_assoc]) sz22 rfl (by show 3 ≤ 4; decide) ?_
  refine Ze (Zt ?_)
  refine rg_draw 11 [(true, 0), (true, 1), (true, 2), (true, 3), (true, 4), (true, 5), (true, 6), (true, 7), (true, 8), (true, 9), (false, 10)] Zk Zk ?_
  refine Xv rfl (v_fieldAddr (off' := 3) u26 rfl sz22 (by decide) rfl rfl) ?_
  refine Xv rfl (Vl u22 rfl) ?_
  refine Xm ?_
  refine Xm ?_
  refine Xv rfl (v_indexAddr u22 sz3 (congrArg (fun A => some (Value.slice A l.length c)) hA0) rfl Zo rfl) ?_
  refine Xv rfl (v_load u3 rfl rfl (at_ro (.head _) trivial (by rw [Nat.mul_one]; exact hc0))) ?_
  refine Xv rfl (v_quoi (c := l[k].tdiv 12) rfl rfl (by decide) rfl (by omega)) ?_
  refine Xm ?_
  refine x_callv (v := Value.int .i64 (l[k].tdiv 12 % (1 + l[k] % 12))) rfl rfl rfl Tryz.func15 Zk rfl (fun w1 hw1 => c_Md _ _ w1 hq12 (by omega)) ?_
  have em3 := Int.emod_nonneg (l[k].tdiv 12) (show (1 + l[k] % 12 : Int) ≠ 0 by omega)
  have em4 := Int.emod_lt_of_pos (l[k].tdiv 12) (show (0 : Int) < 1 + l[k] % 12 by omega)
  refine Xv rfl (v_addi rfl rfl rfl Zo) ?_
  refine x_buildSliceL (cs := [Value.int .i64 (1 + l[k].tdiv 12 % (1 + l[k] % 12))]) rfl rfl rfl u22 sz3 zr3 rfl rfl rfl ?_
  intro p53
  refine x_append (e := 3) [(p53, Obj.cells [Value.int .i64 (1 + l[k].tdiv 12 % (1 + l[k] % 12))].toArray 3), (p40, Obj.cells [Value.int .i64 (1 + l[k] % 12)].toArray 3), (p7, Obj.cells [Value.int .i64 (10000 + f % 10000), Value.int .i64 (1 + d % 10000), rowV R' (k + 1 + 1), rowV S (k + 1)].toArray 26)] (l2 := rowO 3 R' ++ [(p6, Obj.cells #[Value.int .i64 0, Value.int .i64 0, Value.slice none 0 0, Value.slice none 0 0] 26)]) S (len := k + 1) (xs := (f % 50 :: madeS (l.take k)).map (Value.int .i64)) rfl rfl rfl rfl (by simp [List.append_assoc]; rfl) hS u22 ap3 rfl rfl (m := 1) (news := [Value.int .i64 (1 + l[k].tdiv 12 % (1 + l[k] % 12))]) (fun i hi => at_ownL (vs := [Value.int .i64 (1 + l[k].tdiv 12 % (1 + l[k] % 12))]) (.head _) (by rw [Nat.zero_add]; exact List.getElem?_eq_getElem hi)) rfl Zx (by omega) fun S' hS' => ?_
  refine Xv rfl (v_fieldAddr (off' := 3) u26 rfl sz22 (by decide) rfl rfl) ?_
  refine x_store (cs := [Value.int .i64 (10000 + f % 10000), Value.int .i64 (1 + d % 10000), rowV R' (k + 1 + 1), rowV S (k + 1)]) (off := 3) (e := 26) (l2 := rowO 3 S' ++ (rowO 3 R' ++ [(p6, Obj.cells #[Value.int .i64 0, Value.int .i64 0, Value.slice none 0 0, Value.slice none 0 0] 26)])) [(p53, Obj.cells [Value.int .i64 (1 + l[k].tdiv 12 % (1 + l[k] % 12))].toArray 3), (p40, Obj.cells [Value.int .i64 (1 + l[k] % 12)].toArray 3)] rfl rfl rfl (by simp [List.append_assoc]) sz22 rfl (by show 4 ≤ 4; decide) ?_
  refine Ze (b_norm (Zt (Zr ?_)))
  refine Xm ?_
  refine Xv rfl (v_addi rfl rfl rfl Zo) ?_
  refine Xa ?_
  refine Ze ?_
  exact l_norm (x := (R, S, k)) (μ := fun q : RowS × RowS × Nat => 3 - q.2.2) (R', S', k + 1) ⟨hk3, hkl2, by dsimp only; rw [madeL_snoc hkl2 hk3]; simpa using hR', by dsimp only; rw [madeS_snoc hkl2 hk3]; simpa using hS'⟩ (by simp only; omega) Zu (fun _ h => h.less (((List.Sublist.refl _).cons _).cons _) (fun _ h => h))
 simp only [hb28, hb27, hb24, Qz, ne_eq] at hc28
 have hall : k = l.length ∨ k = 3 := by omega
 obtain ⟨a1, a2⟩ := made_all hall
 rw [a1] at hR
 rw [a2] at hS
 refine w_exit ?_
 refine t_exit ?_
 refine t_exit ?_
 refine b_hit ?_
 refine Zt (Zs (Zr ?_))
 refine Xv rfl (v_load_blk (e := 26) (fz := (0, 0)) (cs := [Value.int .i64 (10000 + f % 10000), Value.int .i64 (1 + d % 10000), rowV R (k + 1), rowV S (k + 1)].toArray) u26 rfl rfl (.head _) (by exact sz26)) ?_
 refine x_store0 (cs := #[Value.int .i64 0, Value.int .i64 0, Value.slice none 0 0, Value.slice none 0 0]) (e := 26) (l2 := []) ((p7, Obj.cells [Value.int .i64 (10000 + f % 10000), Value.int .i64 (1 + d % 10000), rowV R (k + 1), rowV S (k + 1)].toArray 26) :: (rowO 3 S ++ rowO 3 R)) rfl rfl rfl (by simp [List.append_assoc]) sz26 rfl rfl ?_
 refine Ze (Zt (w_ret ?_))
 refine retc rfl rfl (List.mem_append_right _ (.head _)) u26 rfl sz26 (fun w' hm => ⟨_, _, rfl, hm.base (by simp), ?_⟩)
 have hk1 : k + 1 = (0 :: madeL l).length := by have := hR.1; simpa using this.symm
 have hk2 : k + 1 = (f % 50 :: madeS l).length := by have := hS.1; simpa using this.symm
 have hmr := made_right f d l
 have hin := made_in f d l
 have gR := sliceW_own (D := fun b => w.heap.size ≤ b) (e := 3) hR hk1 hin.1 hm (fun p hp => by simp; exact .inr (.inr (.inl hp))) (fun p hp => hm.newer (by simp) (by simp; exact .inr (.inr (.inl hp))))
 have gS := sliceW_own (D := fun b => w.heap.size ≤ b) (e := 3) hS hk2 hin.2 hm (fun p hp => by simp; exact .inr (.inl hp)) (fun p hp => hm.newer (by simp) (by simp; exact .inr (.inl hp)))
 refine ⟨?_, gR.2, gS.2⟩
 exact ⟨by unfold in64; show -9223372036854775808 ≤ 10000 + f % 10000 ∧ 10000 + f % 10000 ≤ 9223372036854775807; omega, by unfold in64; show -9223372036854775808 ≤ 1 + d % 10000 ∧ 1 + d % 10000 ≤ 9223372036854775807; omega,
  rowI_rd (e := 3) hR hk1 hin.1 hm (fun p hp => by simp; exact .inr (.inr (.inl hp))) (fun p hp => hm.newer (by simp) (by simp; exact .inr (.inr (.inl hp)))),
  rowI_rd (e := 3) hS hk2 hin.2 hm (fun p hp => by simp; exact .inr (.inl hp)) (fun p hp => hm.newer (by simp) (by simp; exact .inr (.inl hp)))⟩
theorem c_patternW {v : Value} {l : List Int} {D : Nat → Prop} (w : World) (hl : sliceRd tyI D w v l) :
  Calls Tryz.prog 9 #[v] w fun e w' => ∃ v1 v2, e = .returned (.agg #[.int .i64 (patL l).first, .int .i64 (patL l).days, v1, v2]) ∧ Later w w' ∧ patRd (fun b => w.heap.size ≤ b) w' (patL l) v1 v2 ∧ rowW (fun b => w.heap.size ≤ b) w' v1 (patL l).lv.length ∧ rowW (fun b => w.heap.size ≤ b) w' v2 (patL l).st.length := by
 obtain ⟨A0, c0, rfl, hlc0, hmx0, -⟩ := id hl
 refine enter (vs := [.slice A0 l.length c0]) Tryz.func9 rfl Tryz.ntmps9 rfl ?_
 refine Zs (Zr ?_)
 refine x_alloc rfl rfl rfl zr26 ?_
 intro p2
 refine Ze (Zt ?_)
 refine w_seq_cut (σ := Value × List Int × World) (fun x => sliceRd tyI (notOwn [(p2, Obj.cells #[Value.int .i64 0, Value.int .i64 0, Value.slice none 0 0, Value.slice none 0 0] 26 (0, 0))]) x.2.2 x.1 x.2.1 ∧ 2 ≤ x.2.1.length ∧ patL x.2.1 = patL l) (fun x => [(0, x.1), (2, Value.pointer (some ⟨p2, 0, none⟩))]) (fun x => [(p2, Obj.cells #[Value.int .i64 0, Value.int .i64 0, Value.slice none 0 0, Value.slice none 0 0] 26 (0, 0))]) (fun x => [(x.2.2, (notOwn [(p2, Obj.cells #[Value.int .i64 0, Value.int .i64 0, Value.slice none 0 0, Value.slice none 0 0] 26 (0, 0))])), (w, fun _ => True)]) ?_ ?_
 ·refine w_seq ?_
  refine Zr ?_
  refine Xm ?_
  refine Xv rfl (v_len_slice u22 rfl) ?_
  refine Xb rfl (v_lss rfl rfl) fun b5 hb5 => ?_
  refine Ze (Zt ?_)
  refine w_cond rfl (fun hc5 => ?_) (fun hc5 => ?_)
  ·simp only [hb5, Qz, ne_eq] at hc5
   refine Zr ?_
   refine x_buildSliceL (cs := [Value.int .i64 5, Value.int .i64 30]) rfl rfl rfl u22 sz3 zr3 rfl rfl rfl ?_
   intro p6
   refine Xa ?_
   refine Ze ?_
   refine s_fix [(p2, Obj.cells #[Value.int .i64 0, Value.int .i64 0, Value.slice none 0 0, Value.slice none 0 0] 26 (0, 0))] (List.sublist_cons_self _ _) (fun w0 hm0 => ?_)
   exact c_norm (Value.slice (some ⟨p6, 0, none⟩) 2 2, [5, 30], w0) ⟨rowI_rd (D := (notOwn [(p2, Obj.cells #[Value.int .i64 0, Value.int .i64 0, Value.slice none 0 0, Value.slice none 0 0] 26 (0, 0))])) (e := 3) (r := some (p6, [5, 30].map (Value.int .i64), 2)) (rowOK_lit rfl (by simp [maxLen])) rfl (by intro d hd; simp at hd; unfold in64; omega) hm0 (fun q hq => by rw [show q = _ from List.mem_singleton.1 hq]; exact .head _) (fun q hq => hm0.notIn (l1 := [_]) (List.Sublist.refl _) hq), by simp, by unfold patL; rw [if_neg (show ¬([5, 30] : List Int).length < 2 by decide), if_pos (by omega)]; rfl⟩ Zu (fun w1 h => h.less (List.Sublist.refl _) (fun s hs => by simp at hs ⊢; rcases hs with rfl | rfl <;> simp))
  simp only [hb5, Qz, ne_eq] at hc5
  refine w_skip ?_
  refine s_fix [(p2, Obj.cells #[Value.int .i64 0, Value.int .i64 0, Value.slice none 0 0, Value.slice none 0 0] 26 (0, 0))] (List.Sublist.refl _) (fun w0 hm0 => ?_)
  exact c_norm (Value.slice A0 l.length c0, l, w0) ⟨hl.keep (fun k hk hlt => ⟨fun q hq he => by have h9 := hm0.newer (w0 := w) (by simp) hq; omega, (hm0.base (by simp)).block k hlt⟩), by dsimp only; omega, rfl⟩ Zu (fun w1 h => h.less (List.Sublist.refl _) (fun s hs => by simp at hs ⊢; rcases hs with rfl | rfl <;> simp))
 rintro ⟨v', l', w0⟩ ⟨hl', h2, hpe⟩
 refine w_state ([(0, v'), (2, Value.pointer (some ⟨p2, 0, none⟩))]) ([(p2, Obj.cells #[Value.int .i64 0, Value.int .i64 0, Value.slice none 0 0, Value.slice none 0 0] 26 (0, 0))]) ([(w0, (notOwn [(p2, Obj.cells #[Value.int .i64 0, Value.int .i64 0, Value.slice none 0 0, Value.slice none 0 0] 26 (0, 0))])), (w, fun _ => True)]) ?_
 dsimp only at hl' h2 hpe
 obtain ⟨A, c, rfl, hlc, hmx, -⟩ := id hl'
 obtain ⟨ba, oa, hAa, hDa, hca, hia⟩ := int_at hl' (k := 0) (by omega)
 obtain ⟨bb, ob, hAb, hDb, hcb, hib⟩ := int_at hl' (k := 1) (by omega)
 obtain ⟨p, hP⟩ : ∃ p, madeP l'[0] l'[1] (l'.drop 2) = p := ⟨_, rfl⟩
 have hpp : p = patL l := by rw [← hpe, ← hP]; unfold patL; rw [if_neg (by omega), getD_lt (by omega), getD_lt (by omega)]
 refine Zs ?_
 refine rg_draw 9 [(true, 0), (true, 1), (true, 2), (true, 3), (true, 4), (true, 5), (true, 6), (true, 7), (false, 8)] Zk Zk ?_
 refine Xm ?_
 refine Xv rfl (v_indexAddr (j := 0) u22 sz3 (congrArg (fun A => some (Value.slice A l'.length c)) hAa) rfl Zo rfl) ?_
 refine Xv rfl (v_load u3 rfl rfl (at_ro (.head _) hDa hca)) ?_
 refine Xm ?_
 refine Xv rfl (v_indexAddr (j := 1) u22 sz3 (congrArg (fun A => some (Value.slice A l'.length c)) hAb) rfl Zo rfl) ?_
 refine Xv rfl (v_load u3 rfl rfl (at_ro (.head _) hDb hcb)) ?_
 refine Xm ?_
 refine Xv rfl (v_scut_from (i := 2) u22 sz3 rfl rfl h2 hlc) ?_
 refine x_call (R := fun v wa wb => ∃ v1 v2, v = .agg #[.int .i64 p.first, .int .i64 p.days, v1, v2] ∧ patRd (fun b => wa.heap.size ≤ b) wb (p) v1 v2 ∧ rowW (fun b => wa.heap.size ≤ b) wb v1 (p).lv.length ∧ rowW (fun b => wa.heap.size ≤ b) wb v2 (p).st.length) rfl rfl rfl Tryz.func32 Zk rfl (fun w1 hw1 => by
  have h := c_MadeW l'[0] l'[1] w1 hia hib ((sliceRd.dropN 2 h2 hl').keep (Kept.snap (s := (w0, (notOwn [(p2, Obj.cells #[Value.int .i64 0, Value.int .i64 0, Value.slice none 0 0, Value.slice none 0 0] 26 (0, 0))]))) hw1 (by simp) (fun k h _ => h)))
  rw [hP] at h
  exact h.mono fun e w2 ⟨v1, v2, h1, h2, h3⟩ => ⟨_, h1, h2, v1, v2, rfl, h3⟩) ?_
 intro v15 wa15 wb15 hm15 hl15 hR15
 obtain ⟨v1, v2, rfl, ⟨hp1, hp2, hpa, hpb⟩, hwA, hwB⟩ := hR15
 obtain ⟨A1, c1, rfl, -⟩ := id hpa
 obtain ⟨A2, c2, rfl, -⟩ := id hpb
 refine x_store0 [] rfl rfl rfl rfl sz26 rfl rfl ?_
 refine Ze (Zt (w_ret ?_))
 refine retc rfl rfl (.head _) u26 rfl sz26 (fun w' hm => ?_)
 subst hpp
 have hk9 : Kept (fun b => wa15.heap.size ≤ b) (fun b => w.heap.size ≤ b) wb15 w' := fun k hk hlt => ⟨Nat.le_trans (hm15.base (by simp)).size hk, Kept.snap (D' := fun _ => True) hm (s := (wb15, (notOwn [(p2, Obj.cells #[Value.int .i64 0, Value.int .i64 0, Value.slice none 0 0, Value.slice none 0 0] 26 (0, 0))]))) (by simp) (fun _ _ _ => trivial) k (fun q hq he => by have := hm15.lt hq; omega) hlt |>.2⟩
 exact ⟨_, _, rfl, hm.base (by simp), patRd.keep (⟨hp1, hp2, hpa, hpb⟩ : patRd (fun b => wa15.heap.size ≤ b) wb15 (patL l) _ _) hk9, hwA.keep hk9, hwB.keep hk9⟩
open Go.RowKit Go.PK
theorem missF_len (p : Pat) (d last day : Int) : ∀ (f : Nat) (k : Int) (l : List Ent) (n : Nat), n ≤ 1000 → (missF p d last day f k l n).length + n ≤ 1000
 | 0, _, _, n, h => by rw [missF]; simpa using h
 | f + 1, k, l, n, h => by
  unfold missF
  have key : ∀ (c : Prop) [Decidable c] (x : Iss) (L : List Iss), L.length + (n + 1) ≤ 1000 → (if c then [] else x :: L).length + n ≤ 1000 := fun c _ x L hL => by
   by_cases hc : c
   ·rw [if_pos hc]; simpa using h
   rw [if_neg hc, List.length_cons]; omega
  by_cases hc : k < 100000 ∧ n < 1000
  ·rw [if_pos hc]
   cases l with
   | nil => exact key _ _ _ (missF_len p d last day f (k + 1) [] (n + 1) (by omega))
   | cons e r =>
    dsimp only
    split
    ·exact missF_len p d last day f (e.to + 1) r n h
    exact key _ _ _ (missF_len p d last day f (k + 1) (e :: r) (n + 1) (by omega))
  rw [if_neg hc]; simpa using h
theorem missP_len (p : Pat) (es : List Ent) (day : Int) : (missP p es day).length ≤ 1000 := by
 unfold missP
 split
 ·have := missF_len p (dlyP p es).1 (dlyP p es).2 day (missMu 0 es) 0 es 0 (by decide)
  omega
 simp
set_option maxHeartbeats 8000000 in
theorem lawKeeps {v va : Value} {l : List Int} {ac : List ActD} {D : Nat → Prop} (w : World) (hl : sliceRd tyI D w v l) (hac : sliceRd tyAct D w va ac) (hL : LD w) :
  Calls Tryz.prog 5 #[v, va] w fun e w' => e = .returned (.bool (true)) ∧ Later w w' := by
 obtain ⟨A0, c0, rfl, hlc0, hmx0, -⟩ := id hl
 obtain ⟨AC, cC, rfl, -⟩ := id hac
 obtain ⟨p, hP⟩ : ∃ p, patL l = p := ⟨_, rfl⟩
 have hq : rightQ p := hP ▸ patL_right l
 refine enter (vs := [.slice A0 l.length c0, .slice AC ac.length cC]) Tryz.func5 rfl Tryz.ntmps5 rfl ?_
 refine Zs (Zr ?_)
 refine Xa ?_
 refine Ze (Zt (Zs (Zr ?_)))
 refine x_callb rfl rfl rfl Tryz.func8 Zk rfl (fun w1 hw1 => c_sanity w1 (hL.later (hw1.base (by simp)))) fun b17 hb17 => ?_
 obtain rfl : b17 = true := hb17
 refine Xa ?_
 refine Ze (Zt (Zs (Zr ?_)))
 refine Xm ?_
 refine x_call (R := fun v wa wb => ∃ v1 v2, v = .agg #[.int .i64 p.first, .int .i64 p.days, v1, v2] ∧ (patRd (fun b => wa.heap.size ≤ b) wb p v1 v2 ∧ rowW (fun b => wa.heap.size ≤ b) wb v1 p.lv.length ∧ rowW (fun b => wa.heap.size ≤ b) wb v2 p.st.length)) rfl rfl rfl Tryz.func9 Zk rfl (fun w1 hw1 => by
  have h := c_patternW w1 (hl.keep (Kept.later (hw1.base (by simp))))
  rw [hP] at h
  exact h.mono fun e w2 ⟨v1, v2, h1, h2, h3⟩ => ⟨_, h1, h2, v1, v2, rfl, h3⟩) ?_
 intro v19 wa19 wb19 hm19 hl19 hR19
 obtain ⟨u1, u2, rfl, ⟨gp1, gp2, gpa, gpb⟩, hwA, hwB⟩ := hR19
 obtain ⟨A3, c3, rfl, -⟩ := id gpa
 obtain ⟨A4, c4, rfl, -⟩ := id gpb
 obtain ⟨BL0, hnd0, hBL0, hbw0⟩ := hasW_of (D := fun b => wa19.heap.size ≤ b) (w := wb19) [(Value.slice A3 p.lv.length c3, p.lv.length), (Value.slice A4 p.st.length c4, p.st.length)] (by
  intro x hx
  rcases List.mem_cons.1 hx with rfl | hx
  ·exact hwA
  rw [List.mem_singleton.1 hx]; exact hwB)
 refine Xm ?_
 refine x_call (R := fun v wa wb => ∃ v1 v2, v = .agg #[.int .i64 p.first, .int .i64 p.days, v1, v2] ∧ patRd (fun b => wa.heap.size ≤ b) wb p v1 v2) rfl rfl rfl Tryz.func9 Zk rfl (fun w1 hw1 => by
  have h := c_pattern w1 (hl.keep (Kept.later (hw1.base (by simp))))
  rw [hP] at h
  exact h.mono fun e w2 ⟨v1, v2, h1, h2, h3⟩ => ⟨_, h1, h2, v1, v2, rfl, h3⟩) ?_
 intro v21 wa21 wb21 hm21 hl21 hR21
 obtain ⟨v1, v2, rfl, hp1, hp2, hpa, hpb⟩ := hR21
 obtain ⟨A1, c1, rfl, -⟩ := id hpa
 obtain ⟨A2, c2, rfl, -⟩ := id hpb
 obtain ⟨f1, f2⟩ := patL_rng l
 rw [hP] at f1 f2
 have hcl : ∀ (own : List (Nat × Obj)) (w1 : World), Mem w1 own [(wb21, notOwn []), (wb19, notOwn []), (w, fun _ => True)] → Mem w1 (BL0.map blk ++ own) [(wb21, fun k => wa21.heap.size ≤ k), (w, fun _ => True)] := fun own w1 h => by
  have q1 := (hm21.ro_st (wb19, notOwn []) (.head _)).2.2.2
  have q2 := (hm19.base (w0 := w) (by simp)).size
  refine h.claim (blk_nd hnd0) (fun q hq => ?_) (fun s hs => ?_)
  ·obtain ⟨q0, hq0, rfl⟩ := List.mem_map.1 hq
   exact ⟨(wb19, notOwn []), by simp, (fun p hp => by cases hp), (hBL0 q0 hq0).2⟩
  rcases List.mem_cons.1 hs with rfl | hs
  ·refine ⟨(wb21, notOwn []), by simp, rfl, (fun k hk p hp => by cases hp), fun q hq hk => ?_⟩
   obtain ⟨q0, hq0, rfl⟩ := List.mem_map.1 hq
   have q3 := heap_lt (hBL0 q0 hq0).2
   have q4 : wa21.heap.size ≤ q0.1 := hk
   have q5 : wb19.heap.size ≤ wa21.heap.size := q1
   omega
  rw [List.mem_singleton.1 hs]
  refine ⟨(w, fun _ => True), by simp, rfl, (fun k hk => hk), fun q hq hk => ?_⟩
  obtain ⟨q0, hq0, rfl⟩ := List.mem_map.1 hq
  have q3 := (hBL0 q0 hq0).1
  have q4 : wa19.heap.size ≤ q0.1 := q3
  show w.heap.size ≤ q0.1
  omega
 refine x_alloc rfl rfl rfl zr26 ?_
 intro p6
 refine x_alloc rfl rfl rfl zr26 ?_
 intro p7
 refine x_store0 [(p7, _)] rfl rfl rfl rfl sz26 rfl rfl ?_
 refine x_store0 [] rfl rfl rfl rfl sz26 rfl rfl ?_
 refine Ze (Zt ?_)
 refine w_seq_cut (σ := Nat × RowS × RowS × Nat × RowS × RowS × List (Nat × List Value × TypeId)) (fun y => SerOK p [] y.2.1 y.2.2.1 none ∧ SerOK p [] y.2.2.2.2.1 y.2.2.2.2.2.1 none ∧ hasW y.2.2.2.2.2.2 (Value.slice A3 p.lv.length c3) p.lv.length ∧ hasW y.2.2.2.2.2.2 (Value.slice A4 p.st.length c4) p.st.length) (fun y => [(1, Value.slice AC ac.length cC), (5, Value.bool true), (6, Value.pointer (some ⟨p6, 0, none⟩)), (7, Value.pointer (some ⟨p7, 0, none⟩)), (8, Value.pointer (some ⟨y.1, 0, none⟩)), (9, Value.pointer (some ⟨y.2.2.2.1, 0, none⟩))]) (fun y => y.2.2.2.2.2.2.map blk ++ ((y.1, Obj.cells (serC p y.2.1 y.2.2.1 none 0).toArray 61 (0, 0)) :: (rowO 85 none ++ (rowO 3 y.2.1 ++ (rowO 3 y.2.2.1 ++ (((y.2.2.2.1, Obj.cells (serC p y.2.2.2.2.1 y.2.2.2.2.2.1 none 0).toArray 61 (0, 0)) :: (rowO 85 none ++ (rowO 3 y.2.2.2.2.1 ++ (rowO 3 y.2.2.2.2.2.1 ++ ([(p7, Obj.cells ([Value.int .i64 p.first, Value.int .i64 p.days, Value.slice A1 p.lv.length c1, Value.slice A2 p.st.length c2]).toArray 26 (0, 0)), (p6, Obj.cells ([Value.int .i64 p.first, Value.int .i64 p.days, Value.slice A3 p.lv.length c3, Value.slice A4 p.st.length c4]).toArray 26 (0, 0))]))))))))))) (fun y => [(wb21, fun k => wa21.heap.size ≤ k), (w, fun _ => True)]) ?_ ?_
 ·refine x_memW (own' := [(p7, Obj.cells ([Value.int .i64 p.first, Value.int .i64 p.days, Value.slice A1 p.lv.length c1, Value.slice A2 p.st.length c2]).toArray 26 (0, 0)), (p6, Obj.cells ([Value.int .i64 p.first, Value.int .i64 p.days, Value.slice A3 p.lv.length c3, Value.slice A4 p.st.length c4]).toArray 26 (0, 0))]) (fun w1 h => h) ?_
  refine rg_draw 6 [(true, 0), (true, 2), (false, 1), (false, 3), (true, 4), (true, 5)] Zk Zk ?_
  refine Xv rfl (v_load_blk (e := 26) (fz := (0, 0)) (cs := ([Value.int .i64 p.first, Value.int .i64 p.days, Value.slice A3 p.lv.length c3, Value.slice A4 p.st.length c4]).toArray) u26 rfl rfl Zi (by exact sz26)) ?_
  refine Xv rfl (v_load_blk (e := 26) (fz := (0, 0)) (cs := ([Value.int .i64 p.first, Value.int .i64 p.days, Value.slice A1 p.lv.length c1, Value.slice A2 p.st.length c2]).toArray) u26 rfl rfl Zi (by exact sz26)) ?_
  refine x_own (τ := Nat × RowS × RowS) (fun x => .pointer (some ⟨x.1, 0, none⟩)) (fun x => SerOK p [] x.2.1 x.2.2 none) (fun x => (x.1, Obj.cells (serC p x.2.1 x.2.2 none 0).toArray 61 (0, 0)) :: (rowO 3 x.2.1 ++ (rowO 3 x.2.2 ++ [(p7, Obj.cells ([Value.int .i64 p.first, Value.int .i64 p.days, Value.slice A1 p.lv.length c1, Value.slice A2 p.st.length c2]).toArray 26 (0, 0)), (p6, Obj.cells ([Value.int .i64 p.first, Value.int .i64 p.days, Value.slice A3 p.lv.length c3, Value.slice A4 p.st.length c4]).toArray 26 (0, 0))]))) rfl rfl rfl Tryz.func10 Zk rfl (fun w1 hw1 => (c_New p w1 (⟨gp1, gp2, keep_new gpa hw1 Zh hm19, keep_new gpb hw1 Zh hm19⟩ : patRd (fun _ => True) w1 p (Value.slice A3 p.lv.length c3) (Value.slice A4 p.st.length c4)) hq (hL.later (hw1.base (by simp)))).mono fun e w2 ⟨bq, r1, r2, h1, h2, h3, h4⟩ => ⟨(bq, r1, r2), h1, h2, h3, (hw1.join2 h4).to (by first | (simp [rowO, List.append_assoc]; done) | (simp [rowO, List.append_assoc]; rfl))⟩) fun q hS0 => ?_
  obtain ⟨bs, r1, r2⟩ := q
  dsimp only at hS0 ⊢
  refine x_own (τ := Nat × RowS × RowS) (fun x => .pointer (some ⟨x.1, 0, none⟩)) (fun x => SerOK p [] x.2.1 x.2.2 none) (fun x => (x.1, Obj.cells (serC p x.2.1 x.2.2 none 0).toArray 61 (0, 0)) :: (rowO 3 x.2.1 ++ (rowO 3 x.2.2 ++ ((bs, Obj.cells (serC p r1 r2 none 0).toArray 61 (0, 0)) :: (rowO 3 r1 ++ (rowO 3 r2 ++ [(p7, Obj.cells ([Value.int .i64 p.first, Value.int .i64 p.days, Value.slice A1 p.lv.length c1, Value.slice A2 p.st.length c2]).toArray 26 (0, 0)), (p6, Obj.cells ([Value.int .i64 p.first, Value.int .i64 p.days, Value.slice A3 p.lv.length c3, Value.slice A4 p.st.length c4]).toArray 26 (0, 0))])))))) rfl rfl rfl Tryz.func10 Zk rfl (fun w1 hw1 => (c_New p w1 (⟨hp1, hp2, keep_new hpa hw1 Zh hm21, keep_new hpb hw1 Zh hm21⟩ : patRd (fun _ => True) w1 p (Value.slice A1 p.lv.length c1) (Value.slice A2 p.st.length c2)) hq (hL.later (hw1.base (by simp)))).mono fun e w2 ⟨bq, r1, r2, h1, h2, h3, h4⟩ => ⟨(bq, r1, r2), h1, h2, h3, (hw1.join2 h4).to (by first | (simp [rowO, List.append_assoc]; done) | (simp [rowO, List.append_assoc]; rfl))⟩) fun q hT0 => ?_
  obtain ⟨bt, s1, s2⟩ := q
  dsimp only at hT0 ⊢
  refine Xa ?_
  refine Xa ?_
  refine Ze ?_
  exact c_norm (bs, r1, r2, bt, s1, s2, BL0) ⟨hS0, hT0, hbw0 (Value.slice A3 p.lv.length c3, p.lv.length) (by simp), hbw0 (Value.slice A4 p.st.length c4, p.st.length) (by simp)⟩ Zu (fun w1 h => hcl _ w1 (((h.to (by first | rfl | (simp only [List.cons_append, List.append_assoc, List.nil_append, rowO]; done) | (simp only [List.cons_append, List.append_assoc, List.nil_append, rowO]; rfl)) : Mem w1 (((bt, Obj.cells (serC p s1 s2 none 0).toArray 61 (0, 0)) :: (rowO 3 s1 ++ rowO 3 s2)) ++ (((bs, Obj.cells (serC p r1 r2 none 0).toArray 61 (0, 0)) :: (rowO 3 r1 ++ rowO 3 r2)) ++ [(p7, Obj.cells ([Value.int .i64 p.first, Value.int .i64 p.days, Value.slice A1 p.lv.length c1, Value.slice A2 p.st.length c2]).toArray 26 (0, 0)), (p6, Obj.cells ([Value.int .i64 p.first, Value.int .i64 p.days, Value.slice A3 p.lv.length c3, Value.slice A4 p.st.length c4]).toArray 26 (0, 0))])) _).perm (List.perm_append_comm_assoc ((bt, Obj.cells (serC p s1 s2 none 0).toArray 61 (0, 0)) :: (rowO 3 s1 ++ rowO 3 s2)) ((bs, Obj.cells (serC p r1 r2 none 0).toArray 61 (0, 0)) :: (rowO 3 r1 ++ rowO 3 r2)) [(p7, Obj.cells ([Value.int .i64 p.first, Value.int .i64 p.days, Value.slice A1 p.lv.length c1, Value.slice A2 p.st.length c2]).toArray 26 (0, 0)), (p6, Obj.cells ([Value.int .i64 p.first, Value.int .i64 p.days, Value.slice A3 p.lv.length c3, Value.slice A4 p.st.length c4]).toArray 26 (0, 0))])).to (by first | rfl | (simp only [List.cons_append, List.append_assoc, List.nil_append, rowO]; done) | (simp only [List.cons_append, List.append_assoc, List.nil_append, rowO]; rfl))))
 rintro ⟨bs, r1, r2, bt, s1, s2, BL⟩ ⟨hS0, hT0, hB3, hB4⟩
 refine w_state ([(1, Value.slice AC ac.length cC), (5, Value.bool true), (6, Value.pointer (some ⟨p6, 0, none⟩)), (7, Value.pointer (some ⟨p7, 0, none⟩)), (8, Value.pointer (some ⟨bs, 0, none⟩)), (9, Value.pointer (some ⟨bt, 0, none⟩))]) (BL.map blk ++ ((bs, Obj.cells (serC p r1 r2 none 0).toArray 61 (0, 0)) :: (rowO 85 none ++ (rowO 3 r1 ++ (rowO 3 r2 ++ (((bt, Obj.cells (serC p s1 s2 none 0).toArray 61 (0, 0)) :: (rowO 85 none ++ (rowO 3 s1 ++ (rowO 3 s2 ++ ([(p7, Obj.cells ([Value.int .i64 p.first, Value.int .i64 p.days, Value.slice A1 p.lv.length c1, Value.slice A2 p.st.length c2]).toArray 26 (0, 0)), (p6, Obj.cells ([Value.int .i64 p.first, Value.int .i64 p.days, Value.slice A3 p.lv.length c3, Value.slice A4 p.st.length c4]).toArray 26 (0, 0))]))))))))))) ([(wb21, fun k => wa21.heap.size ≤ k), (w, fun _ => True)]) ?_
 dsimp only at hS0 hT0 hB3 hB4
 refine w_seq_cut (σ := Unit) (fun u => True) (fun u => [(1, Value.slice AC ac.length cC), (5, Value.bool true), (7, Value.pointer (some ⟨p7, 0, none⟩)), (8, Value.pointer (some ⟨bs, 0, none⟩)), (9, Value.pointer (some ⟨bt, 0, none⟩))]) (fun u => ((bs, Obj.cells (serC p r1 r2 none 0).toArray 61 (0, 0)) :: (rowO 85 none ++ (rowO 3 r1 ++ (rowO 3 r2 ++ (((bt, Obj.cells (serC p s1 s2 none 0).toArray 61 (0, 0)) :: (rowO 85 none ++ (rowO 3 s1 ++ (rowO 3 s2 ++ ([(p7, Obj.cells ([Value.int .i64 p.first, Value.int .i64 p.days, Value.slice A1 p.lv.length c1, Value.slice A2 p.st.length c2]).toArray 26 (0, 0))]))))))))))) (fun u => [(wb21, fun k => wa21.heap.size ≤ k), (w, fun _ => True)]) ?_ ?_
 ·refine w_seq ?_
  refine Zr ?_
  refine Xv rfl (v_fieldAddr (off' := 3) u26 rfl sz22 (by decide) rfl rfl) ?_
  refine Xv rfl (v_load u22 rfl rfl (at_ownL (vs := [Value.int .i64 p.first, Value.int .i64 p.days, Value.slice A3 p.lv.length c3, Value.slice A4 p.st.length c4]) Zi rfl)) ?_
  refine Xv rfl (v_len_slice u22 rfl) ?_
  refine Xm ?_
  refine Ze (Zt (w_block ?_))
  refine w_loop (σ := Nat × List (Nat × List Value × TypeId)) (fun x => x.1 ≤ p.st.length ∧ hasW x.2 (Value.slice A3 p.lv.length c3) p.lv.length ∧ hasW x.2 (Value.slice A4 p.st.length c4) p.st.length) (fun x => [(1, Value.slice AC ac.length cC), (5, Value.bool true), (6, Value.pointer (some ⟨p6, 0, none⟩)), (7, Value.pointer (some ⟨p7, 0, none⟩)), (8, Value.pointer (some ⟨bs, 0, none⟩)), (9, Value.pointer (some ⟨bt, 0, none⟩)), (28, Value.int .i64 (p.st.length : Nat)), (29, Value.int .i64 (x.1 : Nat))]) (fun x => x.2.map blk ++ ((bs, Obj.cells (serC p r1 r2 none 0).toArray 61 (0, 0)) :: (rowO 85 none ++ (rowO 3 r1 ++ (rowO 3 r2 ++ (((bt, Obj.cells (serC p s1 s2 none 0).toArray 61 (0, 0)) :: (rowO 85 none ++ (rowO 3 s1 ++ (rowO 3 s2 ++ ([(p7, Obj.cells ([Value.int .i64 p.first, Value.int .i64 p.days, Value.slice A1 p.lv.length c1, Value.slice A2 p.st.length c2]).toArray 26 (0, 0)), (p6, Obj.cells ([Value.int .i64 p.first, Value.int .i64 p.days, Value.slice A3 p.lv.length c3, Value.slice A4 p.st.length c4]).toArray 26 (0, 0))]))))))))))) (fun x => [(wb21, fun k => wa21.heap.size ≤ k), (w, fun _ => True)]) (fun x => p.st.length - x.1) ((0, BL)) (⟨Nat.zero_le _, hB3, hB4⟩) (l_start Zu (fun w1 h => h)) ?_
  rintro ⟨k, BL⟩ ⟨hk, hB3, hB4⟩
  refine w_state ([(1, Value.slice AC ac.length cC), (5, Value.bool true), (6, Value.pointer (some ⟨p6, 0, none⟩)), (7, Value.pointer (some ⟨p7, 0, none⟩)), (8, Value.pointer (some ⟨bs, 0, none⟩)), (9, Value.pointer (some ⟨bt, 0, none⟩)), (28, Value.int .i64 (p.st.length : Nat)), (29, Value.int .i64 (k : Nat))]) (BL.map blk ++ ((bs, Obj.cells (serC p r1 r2 none 0).toArray 61 (0, 0)) :: (rowO 85 none ++ (rowO 3 r1 ++ (rowO 3 r2 ++ (((bt, Obj.cells (serC p s1 s2 none 0).toArray 61 (0, 0)) :: (rowO 85 none ++ (rowO 3 s1 ++ (rowO 3 s2 ++ ([(p7, Obj.cells ([Value.int .i64 p.first, Value.int .i64 p.days, Value.slice A1 p.lv.length c1, Value.slice A2 p.st.length c2]).toArray 26 (0, 0)), (p6, Obj.cells ([Value.int .i64 p.first, Value.int .i64 p.days, Value.slice A3 p.lv.length c3, Value.slice A4 p.st.length c4]).toArray 26 (0, 0))]))))))))))) ([(wb21, fun k => wa21.heap.size ≤ k), (w, fun _ => True)]) ?_
  dsimp only at hk hB3 hB4
  refine Zs (Zr ?_)
  refine Xb rfl (v_lss rfl rfl) fun b30 hb30 => ?_
  refine Ze (Zt (Zs ?_))
  refine w_cond rfl (fun hc30 => ?_) (fun hc30 => ?_)
  ·simp only [hb30, Qz, ne_eq] at hc30
   have hkl : k < p.st.length := by omega
   have hsl := hq.1.2.2.1
   have hl4 := hq.1.2.1
   obtain ⟨B1, q, B2, off, z, rfl, hA4, ho4, hz4⟩ := hasW_at hB4 hkl
   refine w_skip (Zt (Zs (w_block (Zs (Zr ?_)))))
   refine Xm ?_
   refine Xa ?_
   refine Ze (Zt (Zs (Zr ?_)))
   refine Xv rfl (v_fieldAddr (off' := 3) u26 rfl sz22 (by decide) rfl rfl) ?_
   refine Xv rfl (v_load u22 rfl rfl (at_ownL (vs := [Value.int .i64 p.first, Value.int .i64 p.days, Value.slice A3 p.lv.length c3, Value.slice A4 p.st.length c4]) Zi rfl)) ?_
   refine Xm ?_
   refine Xv rfl (v_indexAddr (j := k) u22 sz3 (congrArg (fun A : Option Addr => some (Value.slice A p.st.length c4)) hA4) rfl Zo rfl) ?_
   refine Xv rfl (v_load u3 rfl rfl (at_ownL (vs := q.2.1) (List.mem_append_left _ (List.mem_map.2 ⟨q, List.mem_append_right _ (List.mem_cons_self ..), rfl⟩)) (by rw [Nat.mul_one]; exact hz4))) ?_
   refine Xv rfl (v_add rfl rfl) ?_
   refine Xv rfl (v_indexAddr (j := k) u22 sz3 (congrArg (fun A : Option Addr => some (Value.slice A p.st.length c4)) hA4) rfl Zo rfl) ?_
   refine x_mem (own' := B1.map blk ++ blk q :: (B2.map blk ++ ((bs, Obj.cells (serC p r1 r2 none 0).toArray 61 (0, 0)) :: (rowO 85 none ++ (rowO 3 r1 ++ (rowO 3 r2 ++ (((bt, Obj.cells (serC p s1 s2 none 0).toArray 61 (0, 0)) :: (rowO 85 none ++ (rowO 3 s1 ++ (rowO 3 s2 ++ ([(p7, Obj.cells ([Value.int .i64 p.first, Value.int .i64 p.days, Value.slice A1 p.lv.length c1, Value.slice A2 p.st.length c2]).toArray 26 (0, 0)), (p6, Obj.cells ([Value.int .i64 p.first, Value.int .i64 p.days, Value.slice A3 p.lv.length c3, Value.slice A4 p.st.length c4]).toArray 26 (0, 0))])))))))))))) (fun w1 h => h.to (by simp only [List.map_append, List.map_cons, List.append_assoc, List.cons_append])) ?_
   refine x_store (cs := q.2.1) (off := off + k * 1) (e := q.2.2) (l2 := B2.map blk ++ ((bs, Obj.cells (serC p r1 r2 none 0).toArray 61 (0, 0)) :: (rowO 85 none ++ (rowO 3 r1 ++ (rowO 3 r2 ++ (((bt, Obj.cells (serC p s1 s2 none 0).toArray 61 (0, 0)) :: (rowO 85 none ++ (rowO 3 s1 ++ (rowO 3 s2 ++ ([(p7, Obj.cells ([Value.int .i64 p.first, Value.int .i64 p.days, Value.slice A1 p.lv.length c1, Value.slice A2 p.st.length c2]).toArray 26 (0, 0)), (p6, Obj.cells ([Value.int .i64 p.first, Value.int .i64 p.days, Value.slice A3 p.lv.length c3, Value.slice A4 p.st.length c4]).toArray 26 (0, 0))]))))))))))) (B1.map blk) rfl rfl rfl rfl sz3 rfl (by show off + k * 1 + 1 ≤ q.2.1.length; omega) ?_
   refine x_mem (own' := (B1 ++ putB q (off + k) (IntKind.i64.wrap (z + 1)) :: B2).map blk ++ ((bs, Obj.cells (serC p r1 r2 none 0).toArray 61 (0, 0)) :: (rowO 85 none ++ (rowO 3 r1 ++ (rowO 3 r2 ++ (((bt, Obj.cells (serC p s1 s2 none 0).toArray 61 (0, 0)) :: (rowO 85 none ++ (rowO 3 s1 ++ (rowO 3 s2 ++ ([(p7, Obj.cells ([Value.int .i64 p.first, Value.int .i64 p.days, Value.slice A1 p.lv.length c1, Value.slice A2 p.st.length c2]).toArray 26 (0, 0)), (p6, Obj.cells ([Value.int .i64 p.first, Value.int .i64 p.days, Value.slice A3 p.lv.length c3, Value.slice A4 p.st.length c4]).toArray 26 (0, 0))]))))))))))) (fun w1 h => h.to (by rw [List.map_append, List.map_cons, List.append_assoc (List.map blk B1), Nat.mul_one]; rfl)) ?_
   refine Ze (Zt ?_)
   have hB3' := hB3.put (z := IntKind.i64.wrap (z + 1)) ho4
   have hB4' := hB4.put (z := IntKind.i64.wrap (z + 1)) ho4
   obtain ⟨BX, hBX⟩ : ∃ BX, B1 ++ putB q (off + k) (IntKind.i64.wrap (z + 1)) :: B2 = BX := ⟨_, rfl⟩
   rw [hBX] at hB3' hB4' ⊢
   obtain ⟨D1, r, D2, off3, z3, rfl, hA3, ho3, hz3⟩ := hasW_at hB3' (k := k) (by omega)
   refine Zr ?_
   refine Xv rfl (v_fieldAddr (off' := 2) u26 rfl sz22 (by decide) rfl rfl) ?_
   refine Xv rfl (v_load u22 rfl rfl (at_ownL (vs := [Value.int .i64 p.first, Value.int .i64 p.days, Value.slice A3 p.lv.length c3, Value.slice A4 p.st.length c4]) Zi rfl)) ?_
   refine Xm ?_
   refine Xv rfl (v_indexAddr (j := k) u22 sz3 (congrArg (fun A : Option Addr => some (Value.slice A p.lv.length c3)) hA3) rfl Zo rfl) ?_
   refine Xv rfl (v_load u3 rfl rfl (at_ownL (vs := r.2.1) (List.mem_append_left _ (List.mem_map.2 ⟨r, List.mem_append_right _ (List.mem_cons_self ..), rfl⟩)) (by rw [Nat.mul_one]; exact hz3))) ?_
   refine Xv rfl (v_add rfl rfl) ?_
   refine Xv rfl (v_indexAddr (j := k) u22 sz3 (congrArg (fun A : Option Addr => some (Value.slice A p.lv.length c3)) hA3) rfl Zo rfl) ?_
   refine x_mem (own' := D1.map blk ++ blk r :: (D2.map blk ++ ((bs, Obj.cells (serC p r1 r2 none 0).toArray 61 (0, 0)) :: (rowO 85 none ++ (rowO 3 r1 ++ (rowO 3 r2 ++ (((bt, Obj.cells (serC p s1 s2 none 0).toArray 61 (0, 0)) :: (rowO 85 none ++ (rowO 3 s1 ++ (rowO 3 s2 ++ ([(p7, Obj.cells ([Value.int .i64 p.first, Value.int .i64 p.days, Value.slice A1 p.lv.length c1, Value.slice A2 p.st.length c2]).toArray 26 (0, 0)), (p6, Obj.cells ([Value.int .i64 p.first, Value.int .i64 p.days, Value.slice A3 p.lv.length c3, Value.slice A4 p.st.length c4]).toArray 26 (0, 0))])))))))))))) (fun w1 h => h.to (by simp only [List.map_append, List.map_cons, List.append_assoc, List.cons_append])) ?_
   refine x_store (cs := r.2.1) (off := off3 + k * 1) (e := r.2.2) (l2 := D2.map blk ++ ((bs, Obj.cells (serC p r1 r2 none 0).toArray 61 (0, 0)) :: (rowO 85 none ++ (rowO 3 r1 ++ (rowO 3 r2 ++ (((bt, Obj.cells (serC p s1 s2 none 0).toArray 61 (0, 0)) :: (rowO 85 none ++ (rowO 3 s1 ++ (rowO 3 s2 ++ ([(p7, Obj.cells ([Value.int .i64 p.first, Value.int .i64 p.days, Value.slice A1 p.lv.length c1, Value.slice A2 p.st.length c2]).toArray 26 (0, 0)), (p6, Obj.cells ([Value.int .i64 p.first, Value.int .i64 p.days, Value.slice A3 p.lv.length c3, Value.slice A4 p.st.length c4]).toArray 26 (0, 0))]))))))))))) (D1.map blk) rfl rfl rfl rfl sz3 rfl (by show off3 + k * 1 + 1 ≤ r.2.1.length; omega) ?_
   refine x_mem (own' := (D1 ++ putB r (off3 + k) (IntKind.i64.wrap (z3 + 1)) :: D2).map blk ++ ((bs, Obj.cells (serC p r1 r2 none 0).toArray 61 (0, 0)) :: (rowO 85 none ++ (rowO 3 r1 ++ (rowO 3 r2 ++ (((bt, Obj.cells (serC p s1 s2 none 0).toArray 61 (0, 0)) :: (rowO 85 none ++ (rowO 3 s1 ++ (rowO 3 s2 ++ ([(p7, Obj.cells ([Value.int .i64 p.first, Value.int .i64 p.days, Value.slice A1 p.lv.length c1, Value.slice A2 p.st.length c2]).toArray 26 (0, 0)), (p6, Obj.cells ([Value.int .i64 p.first, Value.int .i64 p.days, Value.slice A3 p.lv.length c3, Value.slice A4 p.st.length c4]).toArray 26 (0, 0))]))))))))))) (fun w1 h => h.to (by rw [List.map_append, List.map_cons, List.append_assoc (List.map blk D1), Nat.mul_one]; rfl)) ?_
   refine Ze (b_norm (Zt (Zr ?_)))
   refine Xv rfl (v_addi (c := ((k + 1 : Nat) : Int)) rfl rfl (by omega) Zo) ?_
   refine Xm ?_
   refine Ze ?_
   exact l_norm (x := (k, B1 ++ q :: B2)) (μ := fun x : Nat × List (Nat × List Value × TypeId) => p.st.length - x.1) (k + 1, D1 ++ putB r (off3 + k) (IntKind.i64.wrap (z3 + 1)) :: D2) ⟨by dsimp only; omega, hB3'.put ho3, hB4'.put ho3⟩ (by simp only; omega) Zu (fun w1 h => h)
  skip
  refine w_exit ?_
  refine t_exit ?_
  refine t_exit ?_
  refine b_hit ?_
  exact c_norm () trivial Zu (fun w1 h => (h.less (List.sublist_append_right _ _) (fun _ h => h)).less (by repeat (first | exact List.Sublist.refl _ | exact List.nil_sublist _ | apply List.Sublist.cons_cons | (refine List.Sublist.append (List.Sublist.refl _) ?_))) (fun _ h => h))
 rintro _ _
 refine Zs (Zs (Zr ?_))
 refine Xa ?_
 refine Ze (Zt (w_block ?_))
 refine w_loop (σ := Nat × List Ent × RowS × RowS) (fun x => x.1 ≤ ac.length ∧ x.1 ≤ 20 ∧ x.2.1.length ≤ x.1 ∧ srt x.2.1 ∧ rowOK 4 x.2.2.1 x.2.1.length (entsC x.2.1) ∧ rowOK 4 x.2.2.2 x.2.1.length (entsC x.2.1)) (fun x => [(1, Value.slice AC ac.length cC), (5, Value.bool true), (7, Value.pointer (some ⟨p7, 0, none⟩)), (8, Value.pointer (some ⟨bs, 0, none⟩)), (9, Value.pointer (some ⟨bt, 0, none⟩)), (11, Value.int .i64 (x.1 : Nat))]) (fun x => ((bs, Obj.cells (serC p r1 r2 x.2.2.1 x.2.1.length).toArray 61 (0, 0)) :: (rowO 85 x.2.2.1 ++ (rowO 3 r1 ++ (rowO 3 r2 ++ (((bt, Obj.cells (serC p s1 s2 x.2.2.2 x.2.1.length).toArray 61 (0, 0)) :: (rowO 85 x.2.2.2 ++ (rowO 3 s1 ++ (rowO 3 s2 ++ ([(p7, Obj.cells ([Value.int .i64 p.first, Value.int .i64 p.days, Value.slice A1 p.lv.length c1, Value.slice A2 p.st.length c2]).toArray 26 (0, 0))]))))))))))) (fun x => [(wb21, fun k => wa21.heap.size ≤ k), (w, fun _ => True)]) (fun x => 20 - x.1) ((0, [], none, none)) (⟨Nat.zero_le _, Nat.zero_le _, Nat.le_refl _, srt_nil, rowOK_nil, rowOK_nil⟩) (l_start Zu (fun w1 h => h)) ?_
 rintro ⟨k, es, R, G⟩ ⟨hka, hk20, hel, hsrt, hR, hG⟩
 refine w_state ([(1, Value.slice AC ac.length cC), (5, Value.bool true), (7, Value.pointer (some ⟨p7, 0, none⟩)), (8, Value.pointer (some ⟨bs, 0, none⟩)), (9, Value.pointer (some ⟨bt, 0, none⟩)), (11, Value.int .i64 (k : Nat))]) (((bs, Obj.cells (serC p r1 r2 R es.length).toArray 61 (0, 0)) :: (rowO 85 R ++ (rowO 3 r1 ++ (rowO 3 r2 ++ (((bt, Obj.cells (serC p s1 s2 G es.length).toArray 61 (0, 0)) :: (rowO 85 G ++ (rowO 3 s1 ++ (rowO 3 s2 ++ ([(p7, Obj.cells ([Value.int .i64 p.first, Value.int .i64 p.days, Value.slice A1 p.lv.length c1, Value.slice A2 p.st.length c2]).toArray 26 (0, 0))]))))))))))) ([(wb21, fun k => wa21.heap.size ≤ k), (w, fun _ => True)]) ?_
 dsimp only at hka hk20 hel hsrt hR hG
 have hSs := hS0.with hR (fun x hx => (hsrt.2 x hx).in)
 have hSt := hT0.with hG (fun x hx => (hsrt.2 x hx).in)
 refine Zs (Zs (Zr ?_))
 refine Xm ?_
 refine Xm ?_
 refine Xv rfl (v_len_slice u23 rfl) ?_
 refine Xb rfl (v_lss rfl rfl) fun b50 hb50 => ?_
 refine Xm ?_
 refine Xg ?_
 refine Xj rfl rfl rfl (fun hg0 => by subst hg0; (try simp only [Qy]); exact v_lss rfl rfl) fun b53 hb53 => ?_
 refine Xb rfl (v_and rfl rfl) fun b54 hb54 => ?_
 refine Ze (Zt ?_)
 refine w_cond rfl (fun hc54 => ?_) (fun hc54 => ?_)
 ·simp only [hb54, hb53, hb50, Qz, ne_eq] at hc54
  have hkl : k < ac.length := by omega
  obtain ⟨b0, o0, hA0, _, hca, hai⟩ := act_at hac hkl
  have hca' : ∀ j (hj : j < (actC ac[k]).length), At (((bs, Obj.cells (serC p r1 r2 R es.length).toArray 61 (0, 0)) :: (rowO 85 R ++ (rowO 3 r1 ++ (rowO 3 r2 ++ (((bt, Obj.cells (serC p s1 s2 G es.length).toArray 61 (0, 0)) :: (rowO 85 G ++ (rowO 3 s1 ++ (rowO 3 s2 ++ ([(p7, Obj.cells ([Value.int .i64 p.first, Value.int .i64 p.days, Value.slice A1 p.lv.length c1, Value.slice A2 p.st.length c2]).toArray 26 (0, 0))]))))))))))) ([(wb21, fun k => wa21.heap.size ≤ k), (w, fun _ => True)]) b0 (o0 + k * 6 + j) (actC ac[k])[j] := fun j hj => at_ro (s := (w, fun _ => True)) (by simp) trivial (hca j hj)
  obtain ⟨es', cd, hst⟩ : ∃ es' cd, takeQ p es (callT p ac[k]) (callD p ac[k]) = (es', cd) := ⟨_, _, rfl⟩
  obtain ⟨hs9, hl9⟩ := take_srt (p := p) (text := callT p ac[k]) (day := callD p ac[k]) hsrt
  rw [hst] at hs9 hl9
  dsimp only at hs9 hl9
  refine w_skip (Zt (Zs (w_block (Zs ?_))))
  refine rg_draw 11 [(true, 0), (true, 1), (true, 2), (true, 3), (true, 4), (true, 5), (true, 6), (true, 7), (true, 8), (true, 9), (true, 10)] Zk Zk ?_
  refine Xm ?_
  refine Xm ?_
  refine Xv rfl (v_indexAddr (j := k) u23 sz34 (congrArg (fun A => some (Value.slice A ac.length cC)) hA0) rfl Zo rfl) ?_
  refine Xv rfl (v_loadN (vs := actC ac[k]) u34 rfl sz34 rfl (fun j hj => hca' j hj)) ?_
  refine Xv rfl (v_load_blk (e := 26) (fz := (0, 0)) (cs := ([Value.int .i64 p.first, Value.int .i64 p.days, Value.slice A1 p.lv.length c1, Value.slice A2 p.st.length c2]).toArray) u26 rfl rfl Zi (by exact sz26)) ?_
  refine x_callv (v := .tuple #[.string (callT p ac[k]), .int .i64 (callD p ac[k])]) rfl rfl rfl Tryz.func12 Zk rfl (fun w1 hw1 => c_Call p ac[k] w1 (⟨hp1, hp2, hpa.keep (Kept.snap (s := (wb21, fun k => wa21.heap.size ≤ k)) hw1 (by simp) (fun _ _ _ => trivial)), hpb.keep (Kept.snap (s := (wb21, fun k => wa21.heap.size ≤ k)) hw1 (by simp) (fun _ _ _ => trivial))⟩ : patRd (fun _ => True) w1 p (Value.slice A1 p.lv.length c1) (Value.slice A2 p.st.length c2)) hq hai) ?_
  refine Xm ?_
  refine Xv rfl (v_extract rfl rfl) ?_
  refine Xv rfl (v_extract rfl rfl) ?_
  refine Xa ?_
  refine Xa ?_
  refine Ze (Zt (Zs (Zr ?_)))
  refine Xm ?_
  refine Xm ?_
  refine Xm ?_
  refine x_turnf (v := Value.int .i64 cd) (fun R' : RowS => rowOK 4 R' es'.length (entsC es')) (fun R' => ((bs, Obj.cells (serC p r1 r2 R' es'.length).toArray 61 (0, 0)) :: (rowO 85 R' ++ (rowO 3 r1 ++ (rowO 3 r2 ++ (((bt, Obj.cells (serC p s1 s2 G es.length).toArray 61 (0, 0)) :: (rowO 85 G ++ (rowO 3 s1 ++ (rowO 3 s2 ++ ([(p7, Obj.cells ([Value.int .i64 p.first, Value.int .i64 p.days, Value.slice A1 p.lv.length c1, Value.slice A2 p.st.length c2]).toArray 26 (0, 0))]))))))))))) rfl rfl Tryz.func13 Zk rfl (fun w1 hw1 => by
   have h := c_Take (w0 := w) p es (callT p ac[k]) (callD p ac[k]) hw1 (by simp) hL hSs (by have := callT_sz hq hai; omega) (callD_in p _) (by omega)
   rw [hst] at h
   exact h.mono fun e w2 ⟨R', h1, h2, h3⟩ => ⟨h1, R', h2, h3⟩) ?_
  intro R' hR'
  refine Xm ?_
  refine Xm ?_
  refine Xm ?_
  refine x_mem (own' := ((bt, Obj.cells (serC p s1 s2 G es.length).toArray 61 (0, 0)) :: (rowO 85 G ++ (rowO 3 s1 ++ (rowO 3 s2 ++ (((bs, Obj.cells (serC p r1 r2 R' es'.length).toArray 61 (0, 0)) :: (rowO 85 R' ++ (rowO 3 r1 ++ rowO 3 r2))) ++ [(p7, Obj.cells ([Value.int .i64 p.first, Value.int .i64 p.days, Value.slice A1 p.lv.length c1, Value.slice A2 p.st.length c2]).toArray 26 (0, 0))])))))) (fun w1 h => ((h.to (by first | rfl | (simp only [List.cons_append, List.append_assoc, List.nil_append, rowO]; done) | (simp only [List.cons_append, List.append_assoc, List.nil_append, rowO]; rfl)) : Mem w1 (((bs, Obj.cells (serC p r1 r2 R' es'.length).toArray 61 (0, 0)) :: (rowO 85 R' ++ (rowO 3 r1 ++ rowO 3 r2))) ++ (((bt, Obj.cells (serC p s1 s2 G es.length).toArray 61 (0, 0)) :: (rowO 85 G ++ (rowO 3 s1 ++ rowO 3 s2))) ++ [(p7, Obj.cells ([Value.int .i64 p.first, Value.int .i64 p.days, Value.slice A1 p.lv.length c1, Value.slice A2 p.st.length c2]).toArray 26 (0, 0))])) _).perm (List.perm_append_comm_assoc ((bs, Obj.cells (serC p r1 r2 R' es'.length).toArray 61 (0, 0)) :: (rowO 85 R' ++ (rowO 3 r1 ++ rowO 3 r2))) ((bt, Obj.cells (serC p s1 s2 G es.length).toArray 61 (0, 0)) :: (rowO 85 G ++ (rowO 3 s1 ++ rowO 3 s2))) [(p7, Obj.cells ([Value.int .i64 p.first, Value.int .i64 p.days, Value.slice A1 p.lv.length c1, Value.slice A2 p.st.length c2]).toArray 26 (0, 0))])).to (by first | rfl | (simp only [List.cons_append, List.append_assoc, List.nil_append, rowO]; done) | (simp only [List.cons_append, List.append_assoc, List.nil_append, rowO]; rfl))) ?_
  refine x_turnf (v := Value.int .i64 cd) (fun G' : RowS => rowOK 4 G' es'.length (entsC es')) (fun G' => ((bt, Obj.cells (serC p s1 s2 G' es'.length).toArray 61 (0, 0)) :: (rowO 85 G' ++ (rowO 3 s1 ++ (rowO 3 s2 ++ (((bs, Obj.cells (serC p r1 r2 R' es'.length).toArray 61 (0, 0)) :: (rowO 85 R' ++ (rowO 3 r1 ++ rowO 3 r2))) ++ [(p7, Obj.cells ([Value.int .i64 p.first, Value.int .i64 p.days, Value.slice A1 p.lv.length c1, Value.slice A2 p.st.length c2]).toArray 26 (0, 0))])))))) rfl rfl Tryz.func13 Zk rfl (fun w1 hw1 => by
   have h := c_Take (w0 := w) p es (callT p ac[k]) (callD p ac[k]) hw1 (by simp) hL hSt (by have := callT_sz hq hai; omega) (callD_in p _) (by omega)
   rw [hst] at h
   exact h.mono fun e w2 ⟨R', h1, h2, h3⟩ => ⟨h1, R', h2, h3⟩) ?_
  intro G' hG'
  refine Xb rfl (v_neq rfl rfl) fun b74 hb74 => ?_
  obtain rfl : b74 = false := hb74.trans (decide_eq_false (fun h => h rfl))
  refine Ze (Zt ?_)
  refine w_cond rfl (fun hc74 => ?_) (fun hc74 => ?_)
  ·cases hc74
  skip
  refine w_skip (b_norm (Zt (Zr ?_)))
  refine Xm ?_
  refine Xv rfl (v_addi (c := ((k + 1 : Nat) : Int)) rfl rfl (by omega) Zo) ?_
  refine Xa ?_
  refine Ze ?_
  exact l_norm (x := (k, es, R, G)) (μ := fun q : Nat × List Ent × RowS × RowS => 20 - q.1) (k + 1, es', R', G') ⟨by dsimp only; omega, by dsimp only; omega, by dsimp only; omega, hs9, hR', hG'⟩ (by simp only; omega) Zu (fun w1 h => ((h.to (by first | rfl | (simp only [List.cons_append, List.append_assoc, List.nil_append, rowO]; done) | (simp only [List.cons_append, List.append_assoc, List.nil_append, rowO]; rfl)) : Mem w1 (((bt, Obj.cells (serC p s1 s2 G' es'.length).toArray 61 (0, 0)) :: (rowO 85 G' ++ (rowO 3 s1 ++ rowO 3 s2))) ++ (((bs, Obj.cells (serC p r1 r2 R' es'.length).toArray 61 (0, 0)) :: (rowO 85 R' ++ (rowO 3 r1 ++ rowO 3 r2))) ++ [(p7, Obj.cells ([Value.int .i64 p.first, Value.int .i64 p.days, Value.slice A1 p.lv.length c1, Value.slice A2 p.st.length c2]).toArray 26 (0, 0))])) _).perm (List.perm_append_comm_assoc ((bt, Obj.cells (serC p s1 s2 G' es'.length).toArray 61 (0, 0)) :: (rowO 85 G' ++ (rowO 3 s1 ++ rowO 3 s2))) ((bs, Obj.cells (serC p r1 r2 R' es'.length).toArray 61 (0, 0)) :: (rowO 85 R' ++ (rowO 3 r1 ++ rowO 3 r2))) [(p7, Obj.cells ([Value.int .i64 p.first, Value.int .i64 p.days, Value.slice A1 p.lv.length c1, Value.slice A2 p.st.length c2]).toArray 26 (0, 0))])).to (by first | rfl | (simp only [List.cons_append, List.append_assoc, List.nil_append, rowO]; done) | (simp only [List.cons_append, List.append_assoc, List.nil_append, rowO]; rfl)))
 skip
 refine w_exit ?_
 refine t_exit ?_
 refine t_exit ?_
 refine b_hit ?_
 refine Zt ?_
 refine w_seq_cut (σ := Unit) (fun u => True) (fun u => [(5, Value.bool true), (7, Value.pointer (some ⟨p7, 0, none⟩)), (8, Value.pointer (some ⟨bs, 0, none⟩)), (9, Value.pointer (some ⟨bt, 0, none⟩))]) (fun u => ((bs, Obj.cells (serC p r1 r2 R es.length).toArray 61 (0, 0)) :: (rowO 85 R ++ (rowO 3 r1 ++ (rowO 3 r2 ++ (((bt, Obj.cells (serC p s1 s2 G es.length).toArray 61 (0, 0)) :: (rowO 85 G ++ (rowO 3 s1 ++ (rowO 3 s2 ++ ([(p7, Obj.cells ([Value.int .i64 p.first, Value.int .i64 p.days, Value.slice A1 p.lv.length c1, Value.slice A2 p.st.length c2]).toArray 26 (0, 0))]))))))))))) (fun u => [(wb21, fun k => wa21.heap.size ≤ k), (w, fun _ => True)]) ?_ ?_
 ·refine w_seq ?_
  refine rg_inv ([(p7, Obj.cells ([Value.int .i64 p.first, Value.int .i64 p.days, Value.slice A1 p.lv.length c1, Value.slice A2 p.st.length c2]).toArray 26 (0, 0))]) 10 (.flt 0 (.flt 2 (.flt 3 (.flt 4 (.flt 5 (.flt 9 (.gr 1 (.gr 6 (.gr 7 (.flt 8 .done) .nil) .nil) .nil))))))) (List.singleton_sublist.2 Zi) Zk Zk ?_
  refine k_val rfl rfl (v_move rfl) ?_
  refine k_val rfl rfl (v_move rfl) ?_
  refine k_val rfl rfl (v_fieldAddr (off' := 0) u26 rfl sz3 (by decide) rfl rfl) ?_
  refine k_val rfl rfl (v_load u3 rfl rfl (at_ownL (vs := [Value.int .i64 p.first, Value.int .i64 p.days, Value.slice A1 p.lv.length c1, Value.slice A2 p.st.length c2]) (.head _) rfl)) ?_
  refine k_val rfl rfl (v_addi (c := p.first + 500) rfl rfl (by omega) Zo) ?_
  refine k_val rfl rfl (v_move rfl) ?_
  refine k_gr ?_ k_nil
  refine x_call (R := fun v wa wb => ∃ Rr, v = rowV Rr (heldP p es).length ∧ (∀ q ∈ rowO 48 Rr, wb.heap[q.1]? = some q.2 ∧ wa.heap.size ≤ q.1) ∧ RowT tyIssW (newD wa (rowO 48 Rr)) wb Rr (heldP p es)) rfl rfl rfl Tryz.func19 Zk rfl (fun w1 hw1 => (c_HeldW p es w1 (hSs.rd (b := bs) (e := 61) (e1 := 3) (e2 := 85) hw1 Zi (fun q hq => by repeat (first | exact List.mem_append_left _ hq | exact hq | apply List.mem_append_right | apply List.Mem.tail)) (fun q hq => by repeat (first | exact List.mem_append_left _ hq | exact hq | apply List.mem_append_right | apply List.Mem.tail)) (fun q hq => by repeat (first | exact List.mem_append_left _ hq | exact hq | apply List.mem_append_right | apply List.Mem.tail))) (fun _ => hq) hsrt.2 (by omega)).mono fun e w2 ⟨R, h1, h2, h3, h4⟩ => ⟨_, h1, h2, R, rfl, h3, h4⟩) fun v76 wa76 wb76 hm76 hl76 hR76 => ?_
  obtain ⟨Rh, rfl, hq76, hT76⟩ := hR76
  refine Ze ?_
  refine k_end (List.singleton_sublist.2 Zi) (fun _ h => List.mem_cons_of_mem _ h) ?_
  refine k_gr ?_ k_nil
  have hdd : in64 (p.first + 500) := by unfold in64; omega
  refine x_call (R := fun v wa wb => ∃ Rr, v = rowV Rr (missP p es (p.first + 500)).length ∧ (∀ q ∈ rowO 48 Rr, wb.heap[q.1]? = some q.2 ∧ wa.heap.size ≤ q.1) ∧ RowT tyIssW (newD wa (rowO 48 Rr)) wb Rr (missP p es (p.first + 500))) rfl rfl rfl Tryz.func17 Zk rfl (fun w1 hw1 => (c_MissW p es (p.first + 500) w1 (hSs.rd (b := bs) (e := 61) (e1 := 3) (e2 := 85) hw1 Zi (fun q hq => by repeat (first | exact List.mem_append_left _ hq | exact hq | apply List.mem_append_right | apply List.Mem.tail)) (fun q hq => by repeat (first | exact List.mem_append_left _ hq | exact hq | apply List.mem_append_right | apply List.Mem.tail)) (fun q hq => by repeat (first | exact List.mem_append_left _ hq | exact hq | apply List.mem_append_right | apply List.Mem.tail))) hsrt.2 (by omega) hdd (hL.later (hw1.base (by simp)))).mono fun e w2 ⟨R, h1, h2, h3, h4⟩ => ⟨_, h1, h2, R, rfl, h3, h4⟩) fun v81 wa81 wb81 hm81 hl81 hR81 => ?_
  obtain ⟨Rm, rfl, hq81, hT81⟩ := hR81
  refine Ze ?_
  refine k_end (List.singleton_sublist.2 Zi) (fun _ h => List.mem_cons_of_mem _ (List.mem_cons_of_mem _ h)) ?_
  refine k_gr ?_ k_nil
  obtain ⟨vn, vm, BL, BN, hBLe, hBLn, hBLh, hvn, hvm, hrh, hrm, hone, hhw⟩ := made_two hm76 hm81 hl76 hl81 hq76 hT76 hq81 hT81
  subst hBLe
  have hvl : (vn ++ vm).length = (heldP p es).length + (missP p es (p.first + 500)).length := by rw [List.length_append, hvn, hvm]
  have hlh : (heldP p es).length ≤ 100000 := by
   have h9 := heldP_len (p := p) hsrt.2 es.length
   rw [List.take_length] at h9
   omega
  have hlm := missP_len p es (p.first + 500)
  refine x_mem (own' := (rowO 48 Rh ++ (rowO 48 Rm ++ BN.map blk)) ++ ((bs, Obj.cells (serC p r1 r2 R es.length).toArray 61 (0, 0)) :: (rowO 85 R ++ (rowO 3 r1 ++ (rowO 3 r2 ++ (((bt, Obj.cells (serC p s1 s2 G es.length).toArray 61 (0, 0)) :: (rowO 85 G ++ (rowO 3 s1 ++ (rowO 3 s2 ++ ([(p7, Obj.cells ([Value.int .i64 p.first, Value.int .i64 p.days, Value.slice A1 p.lv.length c1, Value.slice A2 p.st.length c2]).toArray 26 (0, 0))]))))))))))) (ro' := [(wb21, fun k => wa21.heap.size ≤ k), (w, fun _ => True)]) (fun w1 h => h.claim hBLn (fun q hq => ?_) (fun s hs => ?_)) ?_
  ·have q1 := hBLh q hq
   exact ⟨(wb81, _), .head _, (fun p hp he => by have := hm76.lt hp; omega), q1.2⟩
  ·have q0 : wb21.heap.size ≤ wa76.heap.size := (hm76.ro_st (wb21, _) (.head _)).2.2.2
   have q9 : w.heap.size ≤ wa76.heap.size := (hm76.base (by simp)).size
   rcases List.mem_cons.1 hs with rfl | hs
   ·exact ⟨(wb21, fun k => wa21.heap.size ≤ k), by simp, rfl, (fun k hk => hk), fun q hq hk => by have := (hBLh q hq).1; show wb21.heap.size ≤ q.1; omega⟩
   rw [List.mem_singleton.1 hs]
   exact ⟨(w, fun _ => True), by simp, rfl, (fun k hk => hk), fun q hq hk => by have := (hBLh q hq).1; show w.heap.size ≤ q.1; omega⟩
  refine x_mem (own' := [] ++ rowO 48 Rh ++ (rowO 48 Rm ++ (BN.map blk ++ ((bs, Obj.cells (serC p r1 r2 R es.length).toArray 61 (0, 0)) :: (rowO 85 R ++ (rowO 3 r1 ++ (rowO 3 r2 ++ (((bt, Obj.cells (serC p s1 s2 G es.length).toArray 61 (0, 0)) :: (rowO 85 G ++ (rowO 3 s1 ++ (rowO 3 s2 ++ ([(p7, Obj.cells ([Value.int .i64 p.first, Value.int .i64 p.days, Value.slice A1 p.lv.length c1, Value.slice A2 p.st.length c2]).toArray 26 (0, 0))]))))))))))))) (fun w1 h => h.to (by simp only [List.append_assoc, List.nil_append])) ?_
  refine x_append_any (e := 48) (ao := rowA Rm) (c2 := rowC Rm) (m := (missP p es (p.first + 500)).length) (news := vnsC vm) [] (l2 := rowO 48 Rm ++ (BN.map blk ++ ((bs, Obj.cells (serC p r1 r2 R es.length).toArray 61 (0, 0)) :: (rowO 85 R ++ (rowO 3 r1 ++ (rowO 3 r2 ++ (((bt, Obj.cells (serC p s1 s2 G es.length).toArray 61 (0, 0)) :: (rowO 85 G ++ (rowO 3 s1 ++ (rowO 3 s2 ++ ([(p7, Obj.cells ([Value.int .i64 p.first, Value.int .i64 p.days, Value.slice A1 p.lv.length c1, Value.slice A2 p.st.length c2]).toArray 26 (0, 0))])))))))))))) Rh (len := (heldP p es).length) (xs := vnsC vn) rfl rfl rfl rfl rfl hrh u40 ap48 rfl (by rw [vnsC_len, hvm]) (fun h => by cases Rm with | none => exact hrm.2 | some x => cases h) (fun w1 hw1 a ha j u hu => row_any (e := 48) hrm hw1 (fun q hq => by simp [hq]) ha hu) hone Zx (by omega) fun R' hR' => ?_
  obtain ⟨vx, hvx⟩ : ∃ l, vn ++ vm = l := ⟨_, rfl⟩
  have hvxl : vx.length ≤ 1100000 := by rw [← hvx, hvl]; omega
  rw [show vnsC vn ++ vnsC vm = vnsC vx from by rw [← hvx]; exact (List.flatMap_append ..).symm, ← hvl, hvx] at hR'
  rw [← hvl, hvx]
  rw [hvx] at hhw
  refine x_mem (own' := rowO 48 R' ++ (BN.map blk ++ ((bs, Obj.cells (serC p r1 r2 R es.length).toArray 61 (0, 0)) :: (rowO 85 R ++ (rowO 3 r1 ++ (rowO 3 r2 ++ (((bt, Obj.cells (serC p s1 s2 G es.length).toArray 61 (0, 0)) :: (rowO 85 G ++ (rowO 3 s1 ++ (rowO 3 s2 ++ ([(p7, Obj.cells ([Value.int .i64 p.first, Value.int .i64 p.days, Value.slice A1 p.lv.length c1, Value.slice A2 p.st.length c2]).toArray 26 (0, 0))])))))))))))) (fun w1 h => (show Mem w1 (rowO 48 R' ++ (rowO 48 Rm ++ (BN.map blk ++ ((bs, Obj.cells (serC p r1 r2 R es.length).toArray 61 (0, 0)) :: (rowO 85 R ++ (rowO 3 r1 ++ (rowO 3 r2 ++ (((bt, Obj.cells (serC p s1 s2 G es.length).toArray 61 (0, 0)) :: (rowO 85 G ++ (rowO 3 s1 ++ (rowO 3 s2 ++ ([(p7, Obj.cells ([Value.int .i64 p.first, Value.int .i64 p.days, Value.slice A1 p.lv.length c1, Value.slice A2 p.st.length c2]).toArray 26 (0, 0))]))))))))))))) _ from h.to (by simp only [List.append_assoc, List.nil_append])).less (List.Sublist.append (List.Sublist.refl _) (List.sublist_append_right _ _)) (fun _ h => h)) ?_
  refine Ze ?_
  refine k_end (List.singleton_sublist.2 Zi) (fun _ h => h) ?_
  refine k_val rfl rfl (v_len_slice u40 rfl) ?_
  refine k_done ?_
  refine Ze (Zt (w_block ?_))
  refine w_loop (σ := Nat × List (Nat × List Value × TypeId)) (fun x => x.1 ≤ vx.length ∧ ∀ y ∈ vx, hasW x.2 y.1 y.2.1) (fun x => [(5, Value.bool true), (7, Value.pointer (some ⟨p7, 0, none⟩)), (8, Value.pointer (some ⟨bs, 0, none⟩)), (9, Value.pointer (some ⟨bt, 0, none⟩)), (82, rowV R' vx.length), (83, Value.int .i64 (vx.length : Nat)), (84, Value.int .i64 (x.1 : Nat))]) (fun x => rowO 48 R' ++ (x.2.map blk ++ ((bs, Obj.cells (serC p r1 r2 R es.length).toArray 61 (0, 0)) :: (rowO 85 R ++ (rowO 3 r1 ++ (rowO 3 r2 ++ (((bt, Obj.cells (serC p s1 s2 G es.length).toArray 61 (0, 0)) :: (rowO 85 G ++ (rowO 3 s1 ++ (rowO 3 s2 ++ ([(p7, Obj.cells ([Value.int .i64 p.first, Value.int .i64 p.days, Value.slice A1 p.lv.length c1, Value.slice A2 p.st.length c2]).toArray 26 (0, 0))])))))))))))) (fun x => [(wb21, fun k => wa21.heap.size ≤ k), (w, fun _ => True)]) (fun x => vx.length - x.1) ((0, BN)) (⟨Nat.zero_le _, hhw⟩) (l_start Zu (fun w1 h => h)) ?_
  rintro ⟨j, BL⟩ ⟨hj, hW⟩
  refine w_state ([(5, Value.bool true), (7, Value.pointer (some ⟨p7, 0, none⟩)), (8, Value.pointer (some ⟨bs, 0, none⟩)), (9, Value.pointer (some ⟨bt, 0, none⟩)), (82, rowV R' vx.length), (83, Value.int .i64 (vx.length : Nat)), (84, Value.int .i64 (j : Nat))]) (rowO 48 R' ++ (BL.map blk ++ ((bs, Obj.cells (serC p r1 r2 R es.length).toArray 61 (0, 0)) :: (rowO 85 R ++ (rowO 3 r1 ++ (rowO 3 r2 ++ (((bt, Obj.cells (serC p s1 s2 G es.length).toArray 61 (0, 0)) :: (rowO 85 G ++ (rowO 3 s1 ++ (rowO 3 s2 ++ ([(p7, Obj.cells ([Value.int .i64 p.first, Value.int .i64 p.days, Value.slice A1 p.lv.length c1, Value.slice A2 p.st.length c2]).toArray 26 (0, 0))])))))))))))) ([(wb21, fun k => wa21.heap.size ≤ k), (w, fun _ => True)]) ?_
  dsimp only at hj hW
  refine Zs (Zr ?_)
  refine Xb rfl (v_lss rfl rfl) fun b85 hb85 => ?_
  refine Ze (Zt (Zs ?_))
  refine w_cond rfl (fun hc85 => ?_) (fun hc85 => ?_)
  ·simp only [hb85, Qz, ne_eq] at hc85
   have hjl : j < vx.length := by omega
   obtain ⟨b0, cs0, cp0, rfl, _⟩ := hR'.cell (j := j * 2) (by rw [vnsC_len]; omega)
   obtain ⟨y, hy⟩ : ∃ y, vx[j] = y := ⟨_, rfl⟩
   obtain ⟨vj, nj, dj⟩ := y
   have hym : (vj, nj, dj) ∈ vx := hy ▸ List.getElem_mem hjl
   obtain ⟨AJ, cJ, hvj, hnj, _⟩ := id (hW _ hym)
   dsimp only at hnj
   dsimp only at hvj
   subst hvj
   have hcj : ∀ i (hi : i < 2), cs0[0 + j * 2 + i]? = some [Value.slice AJ nj cJ, Value.int .i64 dj][i] := fun i hi => by
    have h := rowV_at hR' rfl hjl (j := i) hi
    simp only [hy] at h
    exact h
   refine w_skip (Zt (Zs (w_block (Zs (Zr ?_)))))
   refine Xv rfl (v_indexAddr (j := j) u40 sz48 rfl rfl Zo rfl) ?_
   refine Xv rfl (v_loadN (vs := [Value.slice AJ nj cJ, Value.int .i64 dj]) u48 rfl sz48 rfl (fun i hi => at_ownL (vs := cs0) (.head _) (hcj i hi))) ?_
   refine x_alloc rfl rfl rfl zr48 ?_
   intro p15
   refine x_store0 [] rfl rfl rfl rfl sz48 rfl rfl ?_
   refine Ze (Zt (Zs (Zr ?_)))
   refine Xv rfl (v_fieldAddr (off' := 0) u48 rfl sz22 (by decide) rfl rfl) ?_
   refine Xv rfl (v_load u22 rfl rfl (at_ownL (vs := [Value.slice AJ nj cJ, Value.int .i64 dj]) (.head _) rfl)) ?_
   refine Xv rfl (v_len_slice u22 rfl) ?_
   refine Xm ?_
   refine Ze (Zt (w_block ?_))
   refine w_loop (σ := Nat × List (Nat × List Value × TypeId)) (fun x => x.1 ≤ nj ∧ ∀ y ∈ vx, hasW x.2 y.1 y.2.1) (fun x => [(5, Value.bool true), (7, Value.pointer (some ⟨p7, 0, none⟩)), (8, Value.pointer (some ⟨bs, 0, none⟩)), (9, Value.pointer (some ⟨bt, 0, none⟩)), (15, Value.pointer (some ⟨p15, 0, none⟩)), (82, rowV (some (b0, cs0, cp0)) vx.length), (83, Value.int .i64 (vx.length : Nat)), (84, Value.int .i64 (j : Nat)), (90, Value.int .i64 (nj : Nat)), (91, Value.int .i64 (x.1 : Nat))]) (fun x => (p15, Obj.cells ([Value.slice AJ nj cJ, Value.int .i64 dj]).toArray 48 (0, 0)) :: (rowO 48 (some (b0, cs0, cp0)) ++ (x.2.map blk ++ ((bs, Obj.cells (serC p r1 r2 R es.length).toArray 61 (0, 0)) :: (rowO 85 R ++ (rowO 3 r1 ++ (rowO 3 r2 ++ (((bt, Obj.cells (serC p s1 s2 G es.length).toArray 61 (0, 0)) :: (rowO 85 G ++ (rowO 3 s1 ++ (rowO 3 s2 ++ ([(p7, Obj.cells ([Value.int .i64 p.first, Value.int .i64 p.days, Value.slice A1 p.lv.length c1, Value.slice A2 p.st.length c2]).toArray 26 (0, 0))]))))))))))))) (fun x => [(wb21, fun k => wa21.heap.size ≤ k), (w, fun _ => True)]) (fun x => nj - x.1) ((0, BL)) (⟨Nat.zero_le _, hW⟩) (l_start Zu (fun w1 h => h)) ?_
   rintro ⟨i, BK⟩ ⟨hi, hW2⟩
   refine w_state ([(5, Value.bool true), (7, Value.pointer (some ⟨p7, 0, none⟩)), (8, Value.pointer (some ⟨bs, 0, none⟩)), (9, Value.pointer (some ⟨bt, 0, none⟩)), (15, Value.pointer (some ⟨p15, 0, none⟩)), (82, rowV (some (b0, cs0, cp0)) vx.length), (83, Value.int .i64 (vx.length : Nat)), (84, Value.int .i64 (j : Nat)), (90, Value.int .i64 (nj : Nat)), (91, Value.int .i64 (i : Nat))]) ((p15, Obj.cells ([Value.slice AJ nj cJ, Value.int .i64 dj]).toArray 48 (0, 0)) :: (rowO 48 (some (b0, cs0, cp0)) ++ (BK.map blk ++ ((bs, Obj.cells (serC p r1 r2 R es.length).toArray 61 (0, 0)) :: (rowO 85 R ++ (rowO 3 r1 ++ (rowO 3 r2 ++ (((bt, Obj.cells (serC p s1 s2 G es.length).toArray 61 (0, 0)) :: (rowO 85 G ++ (rowO 3 s1 ++ (rowO 3 s2 ++ ([(p7, Obj.cells ([Value.int .i64 p.first, Value.int .i64 p.days, Value.slice A1 p.lv.length c1, Value.slice A2 p.st.length c2]).toArray 26 (0, 0))]))))))))))))) ([(wb21, fun k => wa21.heap.size ≤ k), (w, fun _ => True)]) ?_
   dsimp only at hi hW2
   refine Zs (Zr ?_)
   refine Xb rfl (v_lss rfl rfl) fun b92 hb92 => ?_
   refine Ze (Zt (Zs ?_))
   refine w_cond rfl (fun hc92 => ?_) (fun hc92 => ?_)
   ·simp only [hb92, Qz, ne_eq] at hc92
    have hil : i < nj := by omega
    obtain ⟨B1, q, B2, off, z, rfl, hAJ, hoj, hzj⟩ := hasW_at (hW2 _ hym) hil
    refine w_skip (Zt (Zs (w_block (Zs (Zr ?_)))))
    refine Xm ?_
    refine Xa ?_
    refine Ze (Zt (Zr ?_))
    refine Xv rfl (v_fieldAddr (off' := 0) u48 rfl sz22 (by decide) rfl rfl) ?_
    refine Xv rfl (v_load u22 rfl rfl (at_ownL (vs := [Value.slice AJ nj cJ, Value.int .i64 dj]) (.head _) rfl)) ?_
    refine Xm ?_
    refine Xv rfl (v_indexAddr (j := i) u22 sz3 (congrArg (fun A : Option Addr => some (Value.slice A nj cJ)) hAJ) rfl Zo rfl) ?_
    refine Xv rfl (v_load u3 rfl rfl (at_ownL (vs := q.2.1) (List.mem_cons_of_mem _ (List.mem_append_right _ (List.mem_append_left _ (List.mem_map.2 ⟨q, List.mem_append_right _ (List.mem_cons_self ..), rfl⟩)))) (by rw [Nat.mul_one]; exact hzj))) ?_
    refine Xv rfl (v_add rfl rfl) ?_
    refine Xv rfl (v_indexAddr (j := i) u22 sz3 (congrArg (fun A : Option Addr => some (Value.slice A nj cJ)) hAJ) rfl Zo rfl) ?_
    refine x_mem (own' := (((p15, Obj.cells ([Value.slice AJ nj cJ, Value.int .i64 dj]).toArray 48 (0, 0)) :: rowO 48 (some (b0, cs0, cp0))) ++ B1.map blk) ++ blk q :: (B2.map blk ++ ((bs, Obj.cells (serC p r1 r2 R es.length).toArray 61 (0, 0)) :: (rowO 85 R ++ (rowO 3 r1 ++ (rowO 3 r2 ++ (((bt, Obj.cells (serC p s1 s2 G es.length).toArray 61 (0, 0)) :: (rowO 85 G ++ (rowO 3 s1 ++ (rowO 3 s2 ++ ([(p7, Obj.cells ([Value.int .i64 p.first, Value.int .i64 p.days, Value.slice A1 p.lv.length c1, Value.slice A2 p.st.length c2]).toArray 26 (0, 0))])))))))))))) (fun w1 h => h.to (by simp only [List.map_append, List.map_cons, List.append_assoc, List.cons_append])) ?_
    refine x_store (cs := q.2.1) (off := off + i * 1) (e := q.2.2) (l2 := B2.map blk ++ ((bs, Obj.cells (serC p r1 r2 R es.length).toArray 61 (0, 0)) :: (rowO 85 R ++ (rowO 3 r1 ++ (rowO 3 r2 ++ (((bt, Obj.cells (serC p s1 s2 G es.length).toArray 61 (0, 0)) :: (rowO 85 G ++ (rowO 3 s1 ++ (rowO 3 s2 ++ ([(p7, Obj.cells ([Value.int .i64 p.first, Value.int .i64 p.days, Value.slice A1 p.lv.length c1, Value.slice A2 p.st.length c2]).toArray 26 (0, 0))]))))))))))) (((p15, Obj.cells ([Value.slice AJ nj cJ, Value.int .i64 dj]).toArray 48 (0, 0)) :: rowO 48 (some (b0, cs0, cp0))) ++ B1.map blk) rfl rfl rfl rfl sz3 rfl (by show off + i * 1 + 1 ≤ q.2.1.length; omega) ?_
    refine x_mem (own' := (p15, Obj.cells ([Value.slice AJ nj cJ, Value.int .i64 dj]).toArray 48 (0, 0)) :: (rowO 48 (some (b0, cs0, cp0)) ++ ((B1 ++ putB q (off + i) (IntKind.i64.wrap (z + 100)) :: B2).map blk ++ ((bs, Obj.cells (serC p r1 r2 R es.length).toArray 61 (0, 0)) :: (rowO 85 R ++ (rowO 3 r1 ++ (rowO 3 r2 ++ (((bt, Obj.cells (serC p s1 s2 G es.length).toArray 61 (0, 0)) :: (rowO 85 G ++ (rowO 3 s1 ++ (rowO 3 s2 ++ ([(p7, Obj.cells ([Value.int .i64 p.first, Value.int .i64 p.days, Value.slice A1 p.lv.length c1, Value.slice A2 p.st.length c2]).toArray 26 (0, 0))]))))))))))))) (fun w1 h => h.to (by rw [List.map_append, List.map_cons, List.append_assoc (List.map blk B1), List.append_assoc _ (List.map blk B1), Nat.mul_one]; rfl)) ?_
    refine Ze (b_norm (Zt (Zr ?_)))
    refine Xv rfl (v_addi (c := ((i + 1 : Nat) : Int)) rfl rfl (by omega) Zo) ?_
    refine Xm ?_
    refine Ze ?_
    exact l_norm (x := (i, B1 ++ q :: B2)) (μ := fun x : Nat × List (Nat × List Value × TypeId) => nj - x.1) (i + 1, B1 ++ putB q (off + i) (IntKind.i64.wrap (z + 100)) :: B2) ⟨hil, fun y hy => (hW2 y hy).put hoj⟩ (by simp only; omega) Zu (fun w1 h => h)
   skip
   refine w_exit ?_
   refine t_exit ?_
   refine t_exit ?_
   refine b_hit ?_
   refine b_norm (Zt (Zr ?_))
   refine Xv rfl (v_addi (c := ((j + 1 : Nat) : Int)) rfl rfl (by omega) Zo) ?_
   refine Xm ?_
   refine Ze ?_
   exact l_norm (x := (j, BL)) (μ := fun x : Nat × List (Nat × List Value × TypeId) => vx.length - x.1) (j + 1, BK) ⟨hjl, hW2⟩ (by simp only; omega) Zu (fun w1 h => h.less (List.sublist_cons_self _ _) (fun _ h => h))
  skip
  refine w_exit ?_
  refine t_exit ?_
  refine t_exit ?_
  refine b_hit ?_
  exact c_norm () trivial Zu (fun w1 h => h.less ((List.sublist_append_right _ _).trans (List.sublist_append_right _ _)) (fun _ h => h))
 rintro _ _
 refine Zs ?_
 refine rg_draw 29 [(true, 0), (true, 1), (true, 2), (true, 3), (true, 4), (true, 5), (true, 6), (true, 7), (true, 8), (true, 9), (true, 11), (false, 10), (false, 12), (true, 13), (true, 14), (true, 15), (true, 16), (true, 17), (true, 18), (true, 19), (true, 21), (true, 22), (true, 23), (true, 24), (false, 20), (false, 25), (true, 26), (true, 27), (true, 28)] Zk Zk ?_
 refine Xm ?_
 refine Xm ?_
 refine x_valg rfl rfl rfl rfl rfl (v_move rfl) ?_
 have hdd : in64 (p.first + 500) := by unfold in64; omega
 refine x_callvg (v := Value.string (encQ p es)) rfl rfl rfl rfl rfl Tryz.func21 Zk rfl (fun w1 hw1 => c_Enc p es w1 (hSs.rd (b := bs) (e := 61) (e1 := 3) (e2 := 85) hw1 Zi (fun q hq => by repeat (first | exact List.mem_append_left _ hq | exact hq | apply List.mem_append_right | apply List.Mem.tail)) (fun q hq => by repeat (first | exact List.mem_append_left _ hq | exact hq | apply List.mem_append_right | apply List.Mem.tail)) (fun q hq => by repeat (first | exact List.mem_append_left _ hq | exact hq | apply List.mem_append_right | apply List.Mem.tail))) (by omega) (hL.later (hw1.base (by simp)))) ?_
 refine x_valg rfl rfl rfl rfl rfl (v_move rfl) ?_
 refine x_callvg (v := Value.string (encQ p es)) rfl rfl rfl rfl rfl Tryz.func21 Zk rfl (fun w1 hw1 => c_Enc p es w1 (hSt.rd (b := bt) (e := 61) (e1 := 3) (e2 := 85) hw1 Zi (fun q hq => by repeat (first | exact List.mem_append_left _ hq | exact hq | apply List.mem_append_right | apply List.Mem.tail)) (fun q hq => by repeat (first | exact List.mem_append_left _ hq | exact hq | apply List.mem_append_right | apply List.Mem.tail)) (fun q hq => by repeat (first | exact List.mem_append_left _ hq | exact hq | apply List.mem_append_right | apply List.Mem.tail))) (by omega) (hL.later (hw1.base (by simp)))) ?_
 refine x_boolg rfl rfl rfl rfl rfl (v_seql rfl rfl) fun b109 hb109 => ?_
 obtain rfl : b109 = true := hb109.trans (decide_eq_true rfl)
 refine Xb rfl (v_and rfl rfl) fun b110 hb110 => ?_
 obtain rfl : b110 = true := hb110
 refine Xm ?_
 refine x_valg rfl rfl rfl rfl rfl (v_move rfl) ?_
 refine x_valg rfl rfl rfl rfl rfl (v_move rfl) ?_
 refine x_call_g (R := fun v wa wb => sliceRd tyIss (fun b => wa.heap.size ≤ b) wb v (heldP p es)) rfl rfl rfl rfl rfl Tryz.func19 Zk rfl (fun w1 hw1 => c_Held p es w1 (hSs.rd (b := bs) (e := 61) (e1 := 3) (e2 := 85) hw1 Zi (fun q hq => by repeat (first | exact List.mem_append_left _ hq | exact hq | apply List.mem_append_right | apply List.Mem.tail)) (fun q hq => by repeat (first | exact List.mem_append_left _ hq | exact hq | apply List.mem_append_right | apply List.Mem.tail)) (fun q hq => by repeat (first | exact List.mem_append_left _ hq | exact hq | apply List.mem_append_right | apply List.Mem.tail))) (fun _ => hq) hsrt.2 (by omega)) fun v113 wa113 wb113 hm113 hl113 hR113 => ?_
 obtain ⟨Aq113, cq113, rfl, -⟩ := id hR113
 refine x_call_g (R := fun v wa wb => sliceRd tyIss (fun b => wa.heap.size ≤ b) wb v (heldP p es)) rfl rfl rfl rfl rfl Tryz.func19 Zk rfl (fun w1 hw1 => c_Held p es w1 (hSt.rd (b := bt) (e := 61) (e1 := 3) (e2 := 85) hw1 Zi (fun q hq => by repeat (first | exact List.mem_append_left _ hq | exact hq | apply List.mem_append_right | apply List.Mem.tail)) (fun q hq => by repeat (first | exact List.mem_append_left _ hq | exact hq | apply List.mem_append_right | apply List.Mem.tail)) (fun q hq => by repeat (first | exact List.mem_append_left _ hq | exact hq | apply List.mem_append_right | apply List.Mem.tail))) (fun _ => hq) hsrt.2 (by omega)) fun v115 wa115 wb115 hm115 hl115 hR115 => ?_
 obtain ⟨Aq115, cq115, rfl, -⟩ := id hR115
 refine x_callbg rfl rfl rfl rfl rfl Tryz.func16 Zk rfl (fun w1 hw1 => c_SameI w1 (keep_new hR113 hw1 Zi hm113) (keep_new hR115 hw1 (.head _) hm115)) fun b116 hb116 => ?_
 obtain rfl : b116 = true := hb116.trans (decide_eq_true rfl)
 refine Xb rfl (v_and rfl rfl) fun b117 hb117 => ?_
 obtain rfl : b117 = true := hb117
 refine Xm ?_
 refine x_valg rfl rfl rfl rfl rfl (v_move rfl) ?_
 refine x_valg rfl rfl rfl rfl rfl (v_fieldAddr (off' := 0) u26 rfl sz3 (by decide) rfl rfl) ?_
 refine x_valg rfl rfl rfl rfl rfl (v_load u3 rfl rfl (at_ownL (vs := [Value.int .i64 p.first, Value.int .i64 p.days, Value.slice A1 p.lv.length c1, Value.slice A2 p.st.length c2]) Zi rfl)) ?_
 refine x_valg rfl rfl rfl rfl rfl (v_addi (c := p.first + 500) rfl rfl (by omega) Zo) ?_
 refine x_valg rfl rfl rfl rfl rfl (v_move rfl) ?_
 refine x_valg rfl rfl rfl rfl rfl (v_fieldAddr (off' := 0) u26 rfl sz3 (by decide) rfl rfl) ?_
 refine x_valg rfl rfl rfl rfl rfl (v_load u3 rfl rfl (at_ownL (vs := [Value.int .i64 p.first, Value.int .i64 p.days, Value.slice A1 p.lv.length c1, Value.slice A2 p.st.length c2]) Zi rfl)) ?_
 refine x_valg rfl rfl rfl rfl rfl (v_addi (c := p.first + 500) rfl rfl (by omega) Zo) ?_
 refine x_call_g (R := fun v wa wb => sliceRd tyIss (fun b => wa.heap.size ≤ b) wb v (missP p es (p.first + 500))) rfl rfl rfl rfl rfl Tryz.func17 Zk rfl (fun w1 hw1 => c_Missing p es (p.first + 500) w1 (hSs.rd (b := bs) (e := 61) (e1 := 3) (e2 := 85) hw1 Zi (fun q hq => by repeat (first | exact List.mem_append_left _ hq | exact hq | apply List.mem_append_right | apply List.Mem.tail)) (fun q hq => by repeat (first | exact List.mem_append_left _ hq | exact hq | apply List.mem_append_right | apply List.Mem.tail)) (fun q hq => by repeat (first | exact List.mem_append_left _ hq | exact hq | apply List.mem_append_right | apply List.Mem.tail))) hsrt.2 (by omega) hdd (hL.later (hw1.base (by simp)))) fun v123 wa123 wb123 hm123 hl123 hR123 => ?_
 obtain ⟨Aq123, cq123, rfl, -⟩ := id hR123
 refine x_call_g (R := fun v wa wb => sliceRd tyIss (fun b => wa.heap.size ≤ b) wb v (missP p es (p.first + 500))) rfl rfl rfl rfl rfl Tryz.func17 Zk rfl (fun w1 hw1 => c_Missing p es (p.first + 500) w1 (hSt.rd (b := bt) (e := 61) (e1 := 3) (e2 := 85) hw1 Zi (fun q hq => by repeat (first | exact List.mem_append_left _ hq | exact hq | apply List.mem_append_right | apply List.Mem.tail)) (fun q hq => by repeat (first | exact List.mem_append_left _ hq | exact hq | apply List.mem_append_right | apply List.Mem.tail)) (fun q hq => by repeat (first | exact List.mem_append_left _ hq | exact hq | apply List.mem_append_right | apply List.Mem.tail))) hsrt.2 (by omega) hdd (hL.later (hw1.base (by simp)))) fun v128 wa128 wb128 hm128 hl128 hR128 => ?_
 obtain ⟨Aq128, cq128, rfl, -⟩ := id hR128
 refine x_callbg rfl rfl rfl rfl rfl Tryz.func16 Zk rfl (fun w1 hw1 => c_SameI w1 (keep_new hR123 hw1 Zi hm123) (keep_new hR128 hw1 (.head _) hm128)) fun b129 hb129 => ?_
 obtain rfl : b129 = true := hb129.trans (decide_eq_true rfl)
 refine Xb rfl (v_and rfl rfl) fun b130 hb130 => ?_
 obtain rfl : b130 = true := hb130
 refine Xa ?_
 refine Ze (Zt (w_ret ?_))
 exact ret1 rfl rfl (fun w' hm => ⟨rfl, hm.base (by simp)⟩)
open Go.RowKit Go.PK
def laidL : List (String × DataW Unit) := [("math/bits.deBruijn32tab", Rows.laid_math_bits_deBruijn32tab), ("math/bits.deBruijn64tab", Rows.laid_math_bits_deBruijn64tab), ("internal/strconv.uint64pow10", Rows.laid_internal_strconv_uint64pow10), ("unicode/utf8.acceptRanges", Rows.laid_unicode_utf8_acceptRanges), ("strconv.ErrRange", Rows.laid_strconv_ErrRange), ("strconv.ErrSyntax", Rows.laid_strconv_ErrSyntax), ("unicode/utf8.first", Rows.laid_unicode_utf8_first)]
theorem noHandle {W : World} (h : laidMetH Tryz.prog laidL W) : laidMet Tryz.prog laidL W := by
 have h1 := (laidMetH_iff.1 h).1
 rwa [show (laidL.filter fun x => x.2.handleName?.isNone) = laidL from by kernel_rfl] at h1
theorem laid_tab {W : World} (h : laidMet Tryz.prog laidL W) : Lib.TabIs Tryz.prog W "internal/strconv.uint64pow10" .u64 Lib.pow10Tab := by
 have h1 := h.filter fun x => x.1 == "internal/strconv.uint64pow10"
 have e : (laidL.filter fun x => x.1 == "internal/strconv.uint64pow10") = [("internal/strconv.uint64pow10", Lib.tabData .u64 Lib.pow10Tab)] := by kernel_rfl
 rw [e] at h1
 exact Lib.tabIs_of_head (g := 3) (t := 194) (e := 107) (n := 20) Zk Zk Zk Zk Zk Zk h1
theorem star : "*" ++ "errors.errorString" = "*errors.errorString" := by decide
theorem row104 (u : TypeId) (h : Tryz.prog.typeName? 3 u = some "*errors.errorString") : u = 190 :=
 typeName_ptr_named (nm := "errors.errorString") (by rw [star]; kernel_rfl) Zk (by decide) u (by rw [star]; exact h)
theorem laid_syn {W : World} (h : laidMet Tryz.prog laidL W) : ∃ tp p, W.var? Tryz.prog "strconv.ErrSyntax" = some #[.iface tp p] := by
 have h1 := h.filter fun x => x.1 == "strconv.ErrSyntax"
 have e : (laidL.filter fun x => x.1 == "strconv.ErrSyntax") = [("strconv.ErrSyntax", .iface "*errors.errorString" (.ptr (.agg [.lit (.string [105, 110, 118, 97, 108, 105, 100, 32, 115, 121, 110, 116, 97, 120])])))] := by kernel_rfl
 rw [e] at h1
 obtain ⟨a0, s0, hv0, _⟩ := laid_sentinel (g := 1) (ti := 112) (tp := 190) (te := 192) (ts := 9) h1 Zk Zk u112 row104 u190 u192 rfl rfl u9 Zk Zk
 exact ⟨_, _, hv0⟩
theorem laid_rng {W : World} (h : laidMet Tryz.prog laidL W) : ∃ tp p, W.var? Tryz.prog "strconv.ErrRange" = some #[.iface tp p] := by
 have h1 := h.filter fun x => x.1 == "strconv.ErrRange"
 have e : (laidL.filter fun x => x.1 == "strconv.ErrRange") = [("strconv.ErrRange", .iface "*errors.errorString" (.ptr (.agg [.lit (.string [118, 97, 108, 117, 101, 32, 111, 117, 116, 32, 111, 102, 32, 114, 97, 110, 103, 101])])))] := by kernel_rfl
 rw [e] at h1
 obtain ⟨a0, s0, hv0, _⟩ := laid_sentinel (g := 2) (ti := 112) (tp := 190) (te := 192) (ts := 9) h1 Zk Zk u112 row104 u190 u192 rfl rfl u9 Zk Zk
 exact ⟨_, _, hv0⟩
theorem ld_of {W : World} (h : laidMetH Tryz.prog laidL W) (hS : W.ShapedOpen Tryz.prog) : LD W := ⟨laid_tab (noHandle h), Tryz.laysM146.s1_3 W hS, laid_syn (noHandle h), laid_rng (noHandle h)⟩
theorem laid_met (os : Os) (args : Array Value) : laidMet Tryz.prog laidL ((World.laidAll Tryz.prog os laidL).forCall (fun _ _ => 0) ⟨#[], args, []⟩).memory :=
 laidMet_laidAll args Zk Zk
theorem bulk_one {H : Type} (d : DataW H) : 1 ≤ Rows.uptoBulk d := by
 cases d with
 | lit l => cases l <;> simp [Rows.uptoBulk]
 | nil => simp [Rows.uptoBulk]
 | ptr d => simp [Rows.uptoBulk]
 | slice elems spare => simp [Rows.uptoBulk]
 | agg parts => simp [Rows.uptoBulk]
 | iface t d => simp [Rows.uptoBulk]
 | map entries => simp [Rows.uptoBulk]
 | held h => simp [Rows.uptoBulk]
def meas (H : Type) : Meas H := ⟨Rows.uptoBulk, Rows.uptoBulkAll, fun _ => by simp [Rows.uptoBulk], fun _ _ => by simp [Rows.uptoBulk], fun _ => by simp [Rows.uptoBulk], fun _ _ => by simp [Rows.uptoBulkAll], bulk_one⟩
open Go.RowKit Go.PK
abbrev tyPatU : Ty (Int × Int × List Int × List Int × Unit) := tyCons tyI (tyCons tyI (tyCons (tySlice tyI) (tyCons (tySlice tyI) tyNil)))
abbrev tyActU : Ty (Int × Int × Int × Bool × Bool × ByteArray × Unit) := tyCons tyI (tyCons tyI (tyCons tyI (tyCons tyBool (tyCons tyBool (tyCons (tyStrN 1048576) tyNil)))))
theorem rdr_actU : RdrN Tryz.prog 34 tyActU 1048576 :=
 rdrN_struct u34 Zk (by decide) (.cons rfl (rdr_i u3 Zk).N (.cons rfl (rdr_i u3 Zk).N (.cons rfl (rdr_i u3 Zk).N (.cons rfl (rdr_bool u4 Zk).N (.cons rfl (rdr_bool u4 Zk).N (.cons rfl (rdr_sN u9 Zk) (.nil _)))))))
theorem rdr_act : RdrN Tryz.prog 34 tyAct 1048576 :=
 ⟨rdr_actU.size, rdr_actU.pos, fun M hM h => by
  obtain ⟨⟨y1, y2, y3, y4, y5, y6, _⟩, hy⟩ := rdr_actU.rd M hM h
  obtain ⟨_, _, e0, ⟨e1, k1⟩, _, _, rfl, ⟨e2, k2⟩, _, _, rfl, ⟨e3, k3⟩, _, _, rfl, e4, _, _, rfl, e5, _, _, rfl, ⟨e6, k6⟩, e7⟩ := hy
  dsimp only at e1 e2 e3 k1 k2 k3 k6 e6
  have e7 : _ = [] := e7
  have e4 : _ = [Value.bool y4] := e4
  have e5 : _ = [Value.bool y5] := e5
  refine ⟨⟨y1, y2, y3, y4, y5, y6⟩, ?_, k1, k2, k3, k6⟩
  rw [e0, e1, e2, e3, e4, e5, e6, e7]; rfl⟩
end Go.Proofs.YtaniaihoodgmpaaGreatDoor
