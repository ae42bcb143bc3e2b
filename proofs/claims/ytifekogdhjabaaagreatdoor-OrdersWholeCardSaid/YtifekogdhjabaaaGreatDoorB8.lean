/- Of the proofs of YtifekogdhjabaaaGreatDoor: Yj Yk Za Zb Zc Ze Zf Keys Zg Zh Zi, put together. -/
import Derived.Test.YtifekogdhjabaaaGreatDoorB7
import Derived.Test.YtifekogdhjabaaaGreatDoorB2
import Derived.RangeFuncBound
import Derived.Test.YtifekogdhjabaaaGreatDoorB1
import Derived.Shelf.SlGeneric
import Derived.Shelf.SlIterI.Nil
import Derived.Shelf.SortM.Plain
import Derived.Shelf.SortM.SortNone
import Derived.Ground.GgzProg
import Derived.Ground.SlgmProg
import Derived.Test.YtifekogdhjabaaaGreatDoorProg
import Derived.Shelf.SlIterI.Sorted
import Derived.Test.YtifekogdhjabaaaGreatDoorB3
import Derived.Test.YtifekogdhjabaaaGreatDoorB4
import Derived.Test.YtifekogdhjabaaaGreatDoorB5
import Derived.Test.YtifekogdhjabaaaGreatDoorB6
set_option linter.unusedVariables false
set_option linter.unusedSimpArgs false
set_option maxRecDepth 100000

namespace Go.Proofs.YtifekogdhjabaaaGreatDoor
open Go.RowKit Go.PK
def yO (n r : Int) : PK.Ord := ⟨7, 2, 1, 5, n, r, 0, 0, 0⟩
def yB (n r : Int) : PK.Ord := ⟨7, 0, 1, 5, n, r, 0, 0, 0⟩
def ansT (n r : Int) : ByteArray := ⟨(wrT (orderR (yO n r))).toArray⟩
def bilT (n r : Int) : ByteArray := ⟨(wrT (invR [yB n r])).toArray⟩
theorem yO_w {n r : Int} (hn : 1 ≤ n ∧ n ≤ 9999) (hr : 0 ≤ r ∧ r ≤ 999999999) : writB (yO n r) = true := (writB_iff _).2 ⟨by show (1 : Int) ≤ 7 ∧ (7 : Int) ≤ 999999999; decide, by show (1 : Int) ≤ 2 ∧ (2 : Int) ≤ 999999999; decide, by show (0 : Int) ≤ 1 ∧ (1 : Int) ≤ 999999999; decide, by show (0 : Int) ≤ 5 ∧ (5 : Int) ≤ 999999999; decide, hr, hn⟩
theorem yB_w {n r : Int} (hn : 1 ≤ n ∧ n ≤ 9999) (hr : 0 ≤ r ∧ r ≤ 999999999) : wrO (pf (yB n r)) := ⟨by show (1 : Int) ≤ 7 ∧ (7 : Int) ≤ 999999999; decide, by show (1 : Int) ≤ 1 ∧ (1 : Int) ≤ 999999999; decide, by show (0 : Int) ≤ 1 ∧ (1 : Int) ≤ 999999999; decide, by show (0 : Int) ≤ 5 ∧ (5 : Int) ≤ 999999999; decide, hr, hn⟩
theorem yO_A {n r : Int} (hn : 1 ≤ n ∧ n ≤ 9999) (hr : 0 ≤ r ∧ r ≤ 999999999) : (yO n r).okA := by
 refine ⟨⟨?_, ?_, ?_, ?_, ?_, ?_⟩, ?_, ?_, ?_⟩ <;> (unfold yO in64; dsimp only; omega)
theorem yB_A {n r : Int} (hn : 1 ≤ n ∧ n ≤ 9999) (hr : 0 ≤ r ∧ r ≤ 999999999) : (yB n r).okA := by
 refine ⟨⟨?_, ?_, ?_, ?_, ?_, ?_⟩, ?_, ?_, ?_⟩ <;> (unfold yB in64; dsimp only; omega)
theorem ans_facts {n r : Int} (hn : 1 ≤ n ∧ n ≤ 9999) (hr : 0 ≤ r ∧ r ≤ 999999999) : wrR (orderR (yO n r)) = (ansT n r, 0) ∧ (ansT n r).size ≤ 200000000 ∧ (parR (ansT n r)).2.2 = 0 ∧ bigO (parR (ansT n r)).1 ∧ rdO (parR (ansT n r)).1 = (yO n r, 0) := by
 obtain ⟨h1, h2, h3⟩ := fine_text (l := orderR (yO n r)) (Nat.le_trans (by unfold orderR; split <;> simp [orderP]) (by decide : 7 ≤ 60)) (order_fine (yO_w hn hr))
 refine ⟨h1, h2, ?_, ?_, ?_⟩
 ·show (parR ⟨_⟩).2.2 = 0; rw [h3]
 ·show bigO (parR ⟨_⟩).1; rw [h3]; exact order_big _
 show rdO (parR ⟨_⟩).1 = _; rw [h3]; show rdO (orderR (yO n r)) = _; rw [rdO_order, if_pos (yO_w hn hr)]; rfl
theorem bil_facts {n r : Int} (hn : 1 ≤ n ∧ n ≤ 9999) (hr : 0 ≤ r ∧ r ≤ 999999999) : wrR (invR [yB n r]) = (bilT n r, 0) ∧ (bilT n r).size ≤ 200000000 ∧ (parR (bilT n r)).2.2 = 0 ∧ bigO (parR (bilT n r)).1 ∧ rdI (parR (bilT n r)).1 = ([yB n r], 0) := by
 obtain ⟨hp, hf⟩ := bill_fine (yB_w hn hr)
 obtain ⟨h1, h2, h3⟩ := fine_text (l := invR [yB n r]) (by unfold invR; rw [if_pos hp, withX_len]; show 4 * 1 + 5 ≤ 60; decide) hf
 refine ⟨h1, h2, ?_, ?_, ?_⟩
 ·show (parR ⟨_⟩).2.2 = 0; rw [h3]
 ·show bigO (parR ⟨_⟩).1; rw [h3]; exact invR_big _
 show rdI (parR ⟨_⟩).1 = _; rw [h3]; show rdI (invR [yB n r]) = _; rw [rdI_inv, if_pos hp]; rfl
theorem c_ans (n r : Int) (w : World) (hn : 1 ≤ n ∧ n ≤ 9999) (hr : 0 ≤ r ∧ r ≤ 999999999) :
  Calls Tryz.prog 49 #[.int .i64 n, .int .i64 r] w fun e w' => e = .returned (.string (ansT n r)) ∧ Later w w' := by
 refine enter (vs := [.int .i64 n, .int .i64 r]) Tryz.func49 rfl Tryz.ntmps49 rfl ?_
 refine Zs (Zr ?_)
 refine Xa ?_
 refine Ze (Zt (Zs (Zr ?_)))
 refine Xv (v := Value.agg #[.int .i64 1, .int .i64 5]) rfl (v_buildL (cs := [.int .i64 1, .int .i64 5]) (places := [(0, 1), (1, 1)]) u23 zr23 Zk rfl rfl) ?_
 refine Xm ?_
 refine Xm ?_
 refine Xv (v := Value.agg (yO n r).cells.toArray) rfl (v_buildL (cs := (yO n r).cells) (places := [(0, 1), (1, 1), (2, 2), (4, 1), (5, 1), (6, 1), (7, 1), (8, 1)]) u25 zr25 Zk rfl rfl) ?_
 refine x_call (R := fun v wa wb => sliceRd tySeg (fun b => wa.heap.size ≤ b) wb v (orderR (yO n r))) rfl rfl rfl Tryz.func84 Zk rfl (fun w1 hw1 => (c_rOrder (yO n r) w1 (yO_A hn hr).1).mono fun e w2 ⟨v, h1, h2, h3, _⟩ => ⟨_, h1, h2, h3⟩) fun v12 wa12 wb12 hm12 hl12 hR12 => ?_
 refine x_callv (v := Value.tuple #[.string (ansT n r), .int .i64 0]) rfl rfl rfl Tryz.func25 Zk rfl (fun w1 hw1 => by
  have h := c_rWrite (l := orderR (yO n r)) w1 (keep_new hR12 hw1 Zh hm12) (by have := (ans_facts hn hr).2.1; unfold ansT at this; have h2 : (wrT (orderR (yO n r))).toArray.size ≤ 200000000 := this; rw [List.size_toArray] at h2; omega)
  rw [(ans_facts hn hr).1] at h; exact h) ?_
 refine Xm ?_
 refine Xv rfl (v_extract rfl rfl) ?_
 refine Xv rfl (v_extract rfl rfl) ?_
 refine Xa ?_
 refine Xa ?_
 refine Ze (Zt (Zs (Zr ?_)))
 refine Xm ?_
 refine Xa ?_
 refine Ze (Zt (w_ret ?_))
 refine ret1 rfl rfl (fun w' hm => ⟨?_, hm.base (by simp)⟩)
 rfl
theorem c_bil (n r : Int) (w : World) (hn : 1 ≤ n ∧ n ≤ 9999) (hr : 0 ≤ r ∧ r ≤ 999999999) :
  Calls Tryz.prog 50 #[.int .i64 n, .int .i64 r] w fun e w' => e = .returned (.string (bilT n r)) ∧ Later w w' := by
 refine enter (vs := [.int .i64 n, .int .i64 r]) Tryz.func50 rfl Tryz.ntmps50 rfl ?_
 refine Zs (Zr ?_)
 refine Xa ?_
 refine Ze (Zt (Zs (Zr ?_)))
 refine Xv (v := Value.agg #[.int .i64 1, .int .i64 5]) rfl (v_buildL (cs := [.int .i64 1, .int .i64 5]) (places := [(0, 1), (1, 1)]) u23 zr23 Zk rfl rfl) ?_
 refine Xm ?_
 refine Xm ?_
 refine Xv (v := Value.agg (yB n r).cells.toArray) rfl (v_buildL (cs := (yB n r).cells) (places := [(0, 1), (1, 1), (2, 2), (4, 1), (5, 1), (6, 1), (7, 1), (8, 1)]) u25 zr25 Zk rfl rfl) ?_
 refine x_buildSliceL (cs := (yB n r).cells) rfl rfl rfl u52 sz25 zr25 rfl rfl rfl ?_
 intro p12
 have hT1 : RowT tyOrd (fun _ => False) w (some (p12, (yB n r).cells, 1)) [yB n r] := ⟨[(yB n r).cells], rfl, rowOK_lit (b := p12) (cs := (yB n r).cells) (n := 1) rfl (by decide), fun j h1 h2 => by match j, h1 with | 0, _ => exact ⟨rfl, yB_A hn hr⟩⟩
 refine x_call (R := fun v wa wb => sliceRd tySeg (fun b => wa.heap.size ≤ b) wb v (invR [yB n r])) rfl rfl rfl Tryz.func26 Zk rfl (fun w1 hw1 => (c_rInvoice (ls := [yB n r]) w1 (hT1.any (D' := fun _ => True) (e := 25) (v := 1) hw1 (fun p hp => hp) (fun _ _ => trivial) rfl)).mono fun e w2 ⟨v, h1, h2, h3⟩ => ⟨_, h1, h2, h3⟩) fun v13 wa13 wb13 hm13 hl13 hR13 => ?_
 refine x_callv (v := Value.tuple #[.string (bilT n r), .int .i64 0]) rfl rfl rfl Tryz.func25 Zk rfl (fun w1 hw1 => by
  have h := c_rWrite (l := invR [yB n r]) w1 (keep_new hR13 hw1 Zh hm13) (by have := (bil_facts hn hr).2.1; unfold bilT at this; have h2 : (wrT (invR [yB n r])).toArray.size ≤ 200000000 := this; rw [List.size_toArray] at h2; omega)
  rw [(bil_facts hn hr).1] at h; exact h) ?_
 refine Xm ?_
 refine Xv rfl (v_extract rfl rfl) ?_
 refine Xv rfl (v_extract rfl rfl) ?_
 refine Xa ?_
 refine Xa ?_
 refine Ze (Zt (Zs (Zr ?_)))
 refine Xm ?_
 refine Xa ?_
 refine Ze (Zt (w_ret ?_))
 refine ret1 rfl rfl (fun w' hm => ⟨?_, hm.base (by simp)⟩)
 rfl
open Go.RowKit Go.PK
open Go.RowKit Go.PK
theorem c_groups (n : Nat) (w : World) :
  Calls Tryz.prog 167 #[.int .u64 (n : Nat)] w fun e w' => ∃ Bs, e = .returned (.func (.func 187) #[] #[.pointer (some ⟨Bs, 0, none⟩)]) ∧ Later w w' ∧ Mem w' [(Bs, Obj.cells [Value.int .u64 ((n : Nat) : Int)].toArray 151 (0, 0))] [(w, fun _ => True)] := by
 refine enter (vs := [.int .u64 (n : Nat)]) Tryz.func167 rfl Tryz.ntmps167 rfl ?_
 refine Zs (Zr ?_)
 refine x_box rfl rfl rfl rfl ?_
 intro p1
 refine Xa ?_
 refine Ze (Zt (Zs (Zr ?_)))
 refine Xv rfl (v_func rfl) ?_
 refine Xa ?_
 refine Ze (Zt (w_ret ?_))
 exact ret1 rfl rfl (fun w' hm => ⟨p1, rfl, hm.base (by simp), hm⟩)
theorem retn {P : Program} {n : Nat} {l : List (Nat × Value)} {own : List (Nat × Obj)} {ro : List Snap} {R : Ending → World → Prop} {fn : Func} (hr : fn.results = #[]) (h : ∀ w', Mem w' own ro → R (.returned (.tuple #[])) w') : S (bodyPost P fn R .ret) n l own ro := ret0 hr h
set_option maxHeartbeats 1000000 in
theorem c_groups1 {w : World} {ro : List Snap} {L Bs : Nat} (X : RowS → Nat → List (Nat × Obj)) (n : Nat) (hn : n < 18446744073709551616) (hm : Mem w ((Bs, Obj.cells [Value.int .u64 ((n : Nat) : Int)].toArray 151 (0, 0)) :: X none 0) ro) (hY : ∀ (bs : List UInt8) (v : Nat) (r : RowS) (w1 : World), rowOK 1 r bs.length (byC bs) → bs.length ≤ 9 → v < 18446744073709551616 → Mem w1 ((Bs, Obj.cells [Value.int .u64 ((v / 128 : Nat) : Int)].toArray 151 (0, 0)) :: X r bs.length) ro → YieldAt Fence.wide (2 - 1) Tryz.prog L [Value.int .u8 (((UInt8.ofNat (v % 128)).toNat : Nat) : Int), Value.bool (decide (((v / 128 : Nat) : Int) > 0))].toArray w1 fun e w2 => e = .returned (.bool true) ∧ ∃ r', rowOK 1 r' (bs ++ [(if v / 128 > 0 then UInt8.ofNat (v % 128 + 128) else UInt8.ofNat (v % 128))]).length (byC (bs ++ [(if v / 128 > 0 then UInt8.ofNat (v % 128 + 128) else UInt8.ofNat (v % 128))])) ∧ Mem w2 ((Bs, Obj.cells [Value.int .u64 ((v / 128 : Nat) : Int)].toArray 151 (0, 0)) :: X r' (bs ++ [(if v / 128 > 0 then UInt8.ofNat (v % 128 + 128) else UInt8.ofNat (v % 128))]).length) ro) :
  Calls Tryz.prog 187 #[.func (.yield L) #[] #[], .pointer (some ⟨Bs, 0, none⟩)] w fun e w' => (∃ v, e = .returned v) ∧ ∃ r' v', rowOK 1 r' (numG n).length (byC (numG n)) ∧ Mem w' ((Bs, Obj.cells [Value.int .u64 ((v' : Nat) : Int)].toArray 151 (0, 0)) :: X r' (numG n).length) ro := by
 refine enter_in hm (vs := [.func (.yield L) #[] #[], .pointer (some ⟨Bs, 0, none⟩)]) Tryz.func187 rfl Tryz.ntmps187 rfl ?_
 refine w_block ?_
 refine w_loop (σ := List UInt8 × Nat × RowS) (fun x => x.1 ++ numG x.2.1 = numG n ∧ rowOK 1 x.2.2 x.1.length (byC x.1) ∧ x.2.1 < 18446744073709551616) (fun x => [(0, Value.func (.yield L) #[] #[]), (1, Value.pointer (some ⟨Bs, 0, none⟩))]) (fun x => (Bs, Obj.cells [Value.int .u64 ((x.2.1 : Nat) : Int)].toArray 151 (0, 0)) :: X x.2.2 x.1.length) (fun x => ro) (fun x => x.2.1) (([], n, none)) (⟨rfl, rowOK_nil, hn⟩) (l_start Zu (fun _ h => h)) ?_
 rintro ⟨bs, v, r⟩ ⟨hbs, hr, hv⟩
 refine w_state ([(0, Value.func (.yield L) #[] #[]), (1, Value.pointer (some ⟨Bs, 0, none⟩))]) ((Bs, Obj.cells [Value.int .u64 ((v : Nat) : Int)].toArray 151 (0, 0)) :: X r bs.length) (ro) ?_
 dsimp only at hbs hr hv
 have hln : bs.length ≤ 9 := by have h1 := congrArg List.length hbs; rw [List.length_append] at h1; have h2 := numG_ten hn; have h3 := numG_pos v; omega
 refine w_block (Zs (Zr ?_))
 refine Xv rfl (v_load u151 rfl rfl (at_ownL (vs := [Value.int .u64 ((v : Nat) : Int)]) (.head _) rfl)) ?_
 refine Xv (v := Value.int .u64 ((v % 128 : Nat) : Int)) rfl (v_remN (b := 128) rfl rfl (by decide)) ?_
 refine Xv rfl (v_convU8 u151 u5 rfl (by omega)) ?_
 refine Xa ?_
 refine Ze (Zt (Zs (Zr ?_)))
 refine Xv rfl (v_load u151 rfl rfl (at_ownL (vs := [Value.int .u64 ((v : Nat) : Int)]) (.head _) rfl)) ?_
 refine Xv (v := Value.int .u64 ((v / 128 : Nat) : Int)) rfl (v_shr rfl rfl (by decide) (by show (v : Int) / 128 = _; omega)) ?_
 refine x_store (cs := [Value.int .u64 ((v : Nat) : Int)]) (off := 0) (e := 151) (l2 := X r bs.length) [] rfl rfl rfl rfl sz151 rfl (by show 1 ≤ 1; decide) ?_
 refine Ze (Zt (Zs ?_))
 refine rg_yield 4 2 Zk rfl ?_
 refine Xm ?_
 refine Xm ?_
 refine Xv rfl (v_load u151 rfl rfl (at_ownL (vs := [Value.int .u64 ((v / 128 : Nat) : Int)]) (.head _) rfl)) ?_
 refine Xb rfl (v_gtr rfl rfl) fun b12 hb12 => ?_
 refine Ze ?_
 subst hb12
 refine s_yield (fun r' : RowS => rowOK 1 r' (bs ++ [(if v / 128 > 0 then UInt8.ofNat (v % 128 + 128) else UInt8.ofNat (v % 128))]).length (byC (bs ++ [(if v / 128 > 0 then UInt8.ofNat (v % 128 + 128) else UInt8.ofNat (v % 128))]))) (fun r' => (Bs, Obj.cells [Value.int .u64 ((v / 128 : Nat) : Int)].toArray 151 (0, 0)) :: X r' (bs ++ [(if v / 128 > 0 then UInt8.ofNat (v % 128 + 128) else UInt8.ofNat (v % 128))]).length) rfl rfl rfl rfl rfl (fun w1 hw1 => (hY bs v r w1 hr hln hv hw1).mono fun e w2 h => h) fun r' hr' => ?_
 refine s_rest Zk rfl ?_
 refine Xv (v := Value.bool false) rfl (v_not (b := true) rfl) ?_
 refine Xm ?_
 refine x_valg rfl rfl rfl rfl rfl (v_load u151 rfl rfl (at_ownL (vs := [Value.int .u64 ((v / 128 : Nat) : Int)]) (.head _) rfl)) ?_
 refine x_boolg rfl rfl rfl rfl rfl (v_eql rfl rfl) fun b17 hb17 => ?_
 refine Xb rfl (v_or (g := false) rfl rfl) fun b18 hb18 => ?_
 refine Ze (Zt ?_)
 refine w_cond rfl (fun hc18 => ?_) (fun hc18 => ?_)
 ·have hv0 : v / 128 = 0 := by rw [hb18, hb17] at hc18; simp at hc18; omega
  refine w_ret (b_ret (t_ret (b_ret ?_)))
  have hv1 : v < 128 := by omega
  rw [numG_small hv1] at hbs
  have e9 : (if v / 128 > 0 then UInt8.ofNat (v % 128 + 128) else UInt8.ofNat (v % 128)) = UInt8.ofNat v := by rw [if_neg (by omega), Nat.mod_eq_of_lt hv1]
  rw [e9, hbs] at hr'
  refine retn rfl (fun w' hm => ⟨⟨_, rfl⟩, r', v / 128, hr', ?_⟩)
  rw [e9, hbs] at hm
  exact hm
 have hv0 : ¬v / 128 = 0 := by rw [hb18, hb17] at hc18; simp at hc18; omega
 refine w_skip (b_norm ?_)
 have hv1 : ¬v < 128 := by omega
 rw [numG_big hv1] at hbs
 have e9 : (if v / 128 > 0 then UInt8.ofNat (v % 128 + 128) else UInt8.ofNat (v % 128)) = UInt8.ofNat (v % 128 + 128) := if_pos (by omega)
 exact l_norm (x := (bs, v, r)) (μ := fun q : List UInt8 × Nat × RowS => q.2.1) (bs ++ [UInt8.ofNat (v % 128 + 128)], v / 128, r') ⟨by dsimp only; rw [← hbs, List.append_assoc]; rfl, by rw [← e9]; exact hr', by dsimp only; omega⟩ (by simp only; omega) Zu (fun _ h => by rw [e9] at h; exact h)
set_option maxHeartbeats 1000000 in
theorem c_Num (n : Nat) (w : World) (hn : n < 18446744073709551616) :
  Calls Tryz.prog 120 #[.int .u64 (n : Nat)] w fun e w' => e = .returned (.string ⟨(numG n).toArray⟩) ∧ Later w w' := by
 have hT := numG_ten hn
 refine enterM (vs := [.int .u64 (n : Nat)]) 2 Tryz.func120 rfl Tryz.ntmps120 rfl ?_
 refine Zs (Zr ?_)
 refine Xa ?_
 refine Ze (Zt (Zs (Zr ?_)))
 refine x_alloc rfl rfl rfl zr49 ?_
 intro p3
 refine Ze (Zt (Zs (Zs (Zr ?_))))
 refine Xm ?_
 refine x_own (τ := Nat) (fun Bs => .func (.func 187) #[] #[.pointer (some ⟨Bs, 0, none⟩)]) (fun _ => True) (fun Bs => (Bs, Obj.cells [Value.int .u64 ((n : Nat) : Int)].toArray 151 (0, 0)) :: [(p3, Obj.cells [rowV none 0].toArray 49 (0, 0))]) rfl rfl rfl Tryz.func167 Zk rfl (fun w1 hw1 => (c_groups n w1).mono fun e w2 ⟨Bs, h1, h2, h3⟩ => ⟨Bs, h1, h2, trivial, (hw1.join2 h3).to (by simp; rfl)⟩) fun Bs _ => ?_
 refine Ze (Zt (w_block ?_))
 refine w_range (fun x : RowS × Nat => rowOK 1 x.1 (numG n).length (byC (numG n))) (fun x => (Bs, Obj.cells [Value.int .u64 ((x.2 : Nat) : Int)].toArray 151 (0, 0)) :: (p3, Obj.cells [rowV x.1 (numG n).length].toArray 49 (0, 0)) :: rowO 5 x.1) rfl (enters_of Tryz.func187 Zk rfl) ?_ ?_
 ·intro L D fn tmps w1 hfh hm1
  refine (c_groups1 (Bs := Bs) (L := L) (fun r k => (L, .loop (recL .ready fn tmps #[8, 9] _ _ D)) :: (D, .deferred (some [])) :: (p3, Obj.cells [rowV r k].toArray 49 (0, 0)) :: rowO 5 r) n hn (hm1.perm (((List.Perm.swap _ _ _).cons _).trans (List.Perm.swap _ _ _))) ?_).mono ?_
  ·intro bs v r w2 hr hln hv hm2
   refine yield_two (m := 1) (hm2.perm (List.Perm.swap _ _ _)) hfh rfl rfl ?_
   refine wi_seq ?_
   refine ri_text (lets_round _) Zk ?_
   refine Xa ?_
   refine Ze ?_
   refine ti_norm ?_
   refine ri_text (lets_round _) Zk ?_
   refine Xa ?_
   refine Ze ?_
   refine t_k ?_
   refine s_begin rfl ?_
   refine wi_block ?_
   refine wi_seq ?_
   refine wi_seq ?_
   refine ri_text (lets_round _) Zk ?_
   refine Xm ?_
   refine Ze ?_
   refine ti_norm ?_
   refine wi_cond rfl (fun hc => ?_) (fun hc => ?_)
   ·have hv0 := of_decide_eq_true hc
    refine ri_text (lets_round _) Zk ?_
    refine Xm ?_
    refine Xv (v := Value.int .u8 (((UInt8.ofNat (v % 128 + 128)).toNat : Nat) : Int)) rfl (by rw [← or128 (Nat.mod_lt v (by decide))]; exact v_orK rfl rfl) ?_
    refine Xa ?_
    refine Ze ?_
    refine ti_norm ?_
    refine ri_text (lets_round _) Zk ?_
    refine Xv rfl (v_load u49 rfl rfl (at_ownL (vs := [rowV r bs.length]) Zh rfl)) ?_
    refine Xm ?_
    refine x_buildSliceL (cs := byC [UInt8.ofNat (v % 128 + 128)]) rfl rfl rfl u49 sz5 zr5 rfl rfl rfl ?_
    intro p15
    refine x_append (e := 5) [(p15, _), (L, _), (Bs, _), (D, _), (p3, _)] (l2 := []) r (len := bs.length) (xs := byC bs) rfl rfl rfl rfl (by simp only [List.append_nil]; rfl) hr u49 ap5 rfl rfl (m := 1) (news := byC [UInt8.ofNat (v % 128 + 128)]) (fun i hi => at_ownL (vs := byC [UInt8.ofNat (v % 128 + 128)]) (.head _) (by rw [Nat.zero_add]; exact List.getElem?_eq_getElem hi)) rfl Zx (by omega) fun r' hr' => ?_
    rw [List.append_nil]
    refine x_store (cs := [rowV r bs.length]) (off := 0) (e := 49) (l2 := rowO 5 r') [(p15, _), (L, _), (Bs, _), (D, _)] rfl rfl rfl rfl sz49 rfl (by show 1 ≤ 1; decide) ?_
    refine x_mem (fun _ h => h.less (List.sublist_cons_self _ _) (fun _ h => h)) ?_
    refine Ze (b_norm ?_)
    refine s_round (fun w' hm => ⟨rfl, r', ?_, ?_⟩)
    ·rw [(if_pos (show v / 128 > 0 by omega) : (if v / 128 > 0 then UInt8.ofNat (v % 128 + 128) else UInt8.ofNat (v % 128)) = _), byC_app, List.length_append]; exact hr'
    rw [(if_pos (show v / 128 > 0 by omega) : (if v / 128 > 0 then UInt8.ofNat (v % 128 + 128) else UInt8.ofNat (v % 128)) = _), List.length_append]; exact hm.perm (List.Perm.swap _ _ _)
   have hv0 := of_decide_eq_false hc
   refine wi_skip ?_
   refine ti_norm ?_
   refine ri_text (lets_round _) Zk ?_
   refine Xv rfl (v_load u49 rfl rfl (at_ownL (vs := [rowV r bs.length]) Zh rfl)) ?_
   refine Xm ?_
   refine x_buildSliceL (cs := byC [UInt8.ofNat (v % 128)]) rfl rfl rfl u49 sz5 zr5 rfl rfl rfl ?_
   intro p15
   refine x_append (e := 5) [(p15, _), (L, _), (Bs, _), (D, _), (p3, _)] (l2 := []) r (len := bs.length) (xs := byC bs) rfl rfl rfl rfl (by simp only [List.append_nil]; rfl) hr u49 ap5 rfl rfl (m := 1) (news := byC [UInt8.ofNat (v % 128)]) (fun i hi => at_ownL (vs := byC [UInt8.ofNat (v % 128)]) (.head _) (by rw [Nat.zero_add]; exact List.getElem?_eq_getElem hi)) rfl Zx (by omega) fun r' hr' => ?_
   rw [List.append_nil]
   refine x_store (cs := [rowV r bs.length]) (off := 0) (e := 49) (l2 := rowO 5 r') [(p15, _), (L, _), (Bs, _), (D, _)] rfl rfl rfl rfl sz49 rfl (by show 1 ≤ 1; decide) ?_
   refine x_mem (fun _ h => h.less (List.sublist_cons_self _ _) (fun _ h => h)) ?_
   refine Ze (b_norm ?_)
   refine s_round (fun w' hm => ⟨rfl, r', ?_, ?_⟩)
   ·rw [(if_neg (show ¬v / 128 > 0 by omega) : (if v / 128 > 0 then UInt8.ofNat (v % 128 + 128) else UInt8.ofNat (v % 128)) = _), byC_app, List.length_append]; exact hr'
   rw [(if_neg (show ¬v / 128 > 0 by omega) : (if v / 128 > 0 then UInt8.ofNat (v % 128 + 128) else UInt8.ofNat (v % 128)) = _), List.length_append]; exact hm.perm (List.Perm.swap _ _ _)
  rintro e w2 ⟨h1, r', v', h2, h3⟩
  exact ⟨h1, (r', v'), h2, h3.perm ((List.Perm.swap _ _ _).trans ((List.Perm.swap _ _ _).cons _))⟩
 rintro D ⟨r, v'⟩ hr
 dsimp only at hr ⊢
 refine sd_block ?_
 refine sd_then ?_
 refine sd_seq ?_
 refine sd_region ?_
 refine sdl_val rfl (v_load u49 rfl rfl (at_ownL (vs := [rowV r (numG n).length]) Zh rfl)) ?_
 refine sdl_val rfl (v_toStrR (E := 5) (numG n) u49 u5 u9 rfl hr rfl (fun q hq => .tail _ (.tail _ (.tail _ hq)))) ?_
 refine sdl_val rfl (v_assign rfl) ?_
 refine sdl_end ?_
 refine sd_then ?_
 refine sd_ret ?_
 exact ret1M rfl rfl (fun w' hm => ⟨rfl, hm.base (by simp)⟩)
open Go.RowKit Go.PK
theorem rd_in {D : Nat → Prop} {w : World} {A : Option Addr} {l c : Nat} {xs : List Int} (h : sliceRd tyI D w (.slice A l c) xs) : ∀ d ∈ xs, in64 d := fun d hd => by
 obtain ⟨j, hj, rfl⟩ := List.getElem_of_mem hd
 obtain ⟨_, _, _, _, _, h1⟩ := int_at h hj
 exact h1
theorem c_Sgn (n : Int) (w : World) (h : in64 n) :
  Calls Tryz.prog 121 #[.int .i64 n] w fun e w' => e = .returned (.int .u64 (sgn n : Nat)) ∧ Later w w' := by
 refine enter (vs := [.int .i64 n]) Tryz.func121 rfl Tryz.ntmps121 rfl ?_
 refine Zs (Zr ?_)
 refine Xa ?_
 refine Ze (Zt (Zs (Zr ?_)))
 refine Xm ?_
 refine Xv rfl (v_conv u3 u151 rfl) ?_
 refine Xv (v := Value.int .u64 (IntKind.u64.wrap (IntKind.u64.wrap n * 2))) rfl (v_shl rfl rfl (by decide) rfl) ?_
 refine Xm ?_
 refine Xv (v := Value.int .i64 (n / 9223372036854775808)) rfl (v_shr rfl rfl (by decide) rfl) ?_
 refine Xv rfl (v_conv u3 u151 rfl) ?_
 refine Xv (v := Value.int .u64 (sgn n : Nat)) rfl (by rw [← xor_sgn h]; exact v_xorK rfl rfl) ?_
 refine Xa ?_
 refine Ze (Zt (w_ret ?_))
 refine ret1 rfl rfl (fun w' hm => ⟨?_, hm.base (by simp)⟩)
 rfl
theorem c_Ints {D : Nat → Prop} {v : Value} {l : List Int} (w : World) (h : sliceRd tyI D w v l) (hll : l.length ≤ 1000000) :
  Calls Tryz.prog 64 #[v] w fun e w' => e = .returned (.string ⟨(intsG l).toArray⟩) ∧ Later w w' := by
 obtain ⟨A0, c0, rfl, hlc, hmx, -⟩ := id h
 have hin : ∀ n ∈ l, -9223372036854775808 ≤ n ∧ n ≤ 9223372036854775807 := rd_in h
 refine enter (vs := [Value.slice A0 l.length c0]) Tryz.func64 rfl Tryz.ntmps64 rfl ?_
 refine Zs (Zr ?_)
 refine Xa ?_
 refine Ze (Zt (Zs (Zr ?_)))
 refine x_alloc rfl rfl rfl zr173 ?_
 intro p3
 refine Ze (Zt (Zs (Zr ?_)))
 refine Xm ?_
 refine Xv rfl (v_len_slice u44 rfl) ?_
 refine Xv rfl (v_convE (c := ((l.length : Nat) : Int)) u3 u151 rfl (u64_wrap (by omega))) ?_
 refine x_callv (v := Value.string ⟨(numG (l.length)).toArray⟩) rfl rfl rfl Tryz.func120 Zk rfl (fun w1 hw1 => c_Num _ w1 (by omega)) ?_
 refine x_turnf (τ := RowS) (v := .tuple #[.int .i64 ((numG l.length).length : Nat), .nilIface]) (fun r' => rowOK 1 r' ([] ++ numG l.length).length (byC ([] ++ numG l.length))) (fun r' => (bld2 173 5 p3 (.pointer (some ⟨p3, 0, none⟩)) r' (([] ++ numG l.length).length)) ++ []) rfl rfl Tryz.func119 Zk rfl (fun w1 hw1 => by
  have h := c_WS (l2 := []) (bs := []) (r := none) (pp := (.pointer none)) w1 (hw1.to (by first | rfl | simp [bld2, rowO])) (p := p3) (.inl rfl) ⟨(numG l.length).toArray⟩ rowOK_nil (by have := numG_ten (n := l.length) (by omega); (try show (0 : Nat) ≤ 4000000000000); omega) (by rw [mk_size]; have := numG_ten (n := l.length) (by omega); (try show (0 : Nat) ≤ 4000000000000); omega)
  rw [bl_mk, mk_size] at h
  exact h.mono fun e w2 ⟨h1, r', h2, h3⟩ => ⟨h1, r', h2, h3⟩) ?_
 intro r10 hr10
 rw [List.nil_append] at hr10
 refine Ze (Zt (Zs (Zs (Zr ?_))))
 refine Xm ?_
 refine Xv rfl (v_len_slice u44 rfl) ?_
 refine Xm ?_
 refine Ze (Zt (w_block ?_))
 refine w_loop (σ := Nat × RowS) (fun x => x.1 ≤ l.length ∧ rowOK 1 x.2 (intsT l x.1).length (byC (intsT l x.1))) (fun x => [(3, Value.pointer (some ⟨p3, 0, none⟩)), (11, Value.slice A0 l.length c0), (12, Value.int .i64 (l.length : Nat)), (13, Value.int .i64 (x.1 : Nat))]) (fun x => (bld2 173 5 p3 (.pointer (some ⟨p3, 0, none⟩)) x.2 ((intsT l x.1).length)) ++ []) (fun x => [(w, fun _ => True)]) (fun x => l.length - x.1) ((0, r10)) (⟨Nat.zero_le _, by dsimp only; rw [intsT_zero]; exact hr10⟩) (l_start Zu (fun _ h => by rw [intsT_zero]; exact h)) ?_
 rintro ⟨k, r⟩ ⟨hk, hr⟩
 refine w_state ([(3, Value.pointer (some ⟨p3, 0, none⟩)), (11, Value.slice A0 l.length c0), (12, Value.int .i64 (l.length : Nat)), (13, Value.int .i64 (k : Nat))]) ((bld2 173 5 p3 (.pointer (some ⟨p3, 0, none⟩)) r ((intsT l k).length)) ++ []) ([(w, fun _ => True)]) ?_
 dsimp only at hk hr
 refine Zs (Zr ?_)
 refine Xb rfl (v_lss rfl rfl) fun b14 hb14 => ?_
 refine Ze (Zt (Zs ?_))
 refine w_cond rfl (fun hc14 => ?_) (fun hc14 => ?_)
 ·simp only [hb14, Qz, ne_eq] at hc14
  have hkl : k < l.length := by omega
  obtain ⟨b0, o0, hA0, _, hc0, hk9⟩ := int_at h hkl
  have hz := intsT_len (by omega) hin k (by omega)
  have hz2 := numG_ten (sgn_lt hk9)
  refine w_skip (Zt (Zs (w_block (Zs (Zr ?_)))))
  refine Xv rfl (v_indexAddr u44 sz3 (congrArg (fun A => some (Value.slice A l.length c0)) hA0) rfl Zo rfl) ?_
  refine Xv rfl (v_load u3 rfl rfl (at_ro (.head _) trivial (by rw [Nat.mul_one]; exact hc0))) ?_
  refine Xa ?_
  refine Ze (Zt (Zr ?_))
  refine Xm ?_
  refine x_callv (v := Value.int .u64 ((sgn l[k] : Nat) : Int)) rfl rfl rfl Tryz.func121 Zk rfl (fun w1 hw1 => c_Sgn _ w1 hk9) ?_
  refine x_callv (v := Value.string ⟨(numG (sgn l[k])).toArray⟩) rfl rfl rfl Tryz.func120 Zk rfl (fun w1 hw1 => c_Num _ w1 (sgn_lt hk9)) ?_
  refine x_turnf (τ := RowS) (v := .tuple #[.int .i64 ((numG (sgn l[k])).length : Nat), .nilIface]) (fun r' => rowOK 1 r' ((intsT l k) ++ numG (sgn l[k])).length (byC ((intsT l k) ++ numG (sgn l[k])))) (fun r' => (bld2 173 5 p3 (.pointer (some ⟨p3, 0, none⟩)) r' (((intsT l k) ++ numG (sgn l[k])).length)) ++ []) rfl rfl Tryz.func119 Zk rfl (fun w1 hw1 => by
   have h := c_WS (l2 := []) (bs := (intsT l k)) (r := r) (pp := (.pointer (some ⟨p3, 0, none⟩))) w1 (hw1.to (by first | rfl | simp [bld2, rowO])) (p := p3) (.inr rfl) ⟨(numG (sgn l[k])).toArray⟩ hr (by omega) (by rw [mk_size]; omega)
   rw [bl_mk, mk_size] at h
   exact h.mono fun e w2 ⟨h1, r', h2, h3⟩ => ⟨h1, r', h2, h3⟩) ?_
  intro r20 hr20
  refine Ze (b_norm (Zt (Zr ?_)))
  refine Xv rfl (v_addi rfl rfl rfl Zo) ?_
  refine Xm ?_
  refine Ze ?_
  exact l_norm (x := (k, r)) (μ := fun q : Nat × RowS => l.length - q.1) (k + 1, r20) ⟨by dsimp only; omega, by dsimp only; rw [intsT_succ hkl]; exact hr20⟩ (by simp only; omega) Zu (fun _ h => by rw [intsT_succ hkl]; exact h)
 simp only [hb14, Qz, ne_eq] at hc14
 refine w_exit ?_
 refine t_exit ?_
 refine t_exit ?_
 refine b_hit ?_
 refine Zt (Zs (Zr ?_))
 obtain rfl : k = l.length := by omega
 rw [intsT_all] at hr
 refine x_turnf (τ := Unit) (v := .string ⟨(intsG l).toArray⟩) (fun _ => True) (fun _ => []) rfl rfl Tryz.func122 Zk rfl (fun w1 hw1 => (c_BS (l2 := []) (bs := intsG l) w1 (hw1.to (by rw [intsT_all])) (p := p3) (.inr rfl) hr (B := w.heap.size) (fun q hq => by rw [List.mem_singleton.1 hq]; exact Nat.le_refl _) (fun q hq => by cases hq) (fun q hq => hw1.newer (by simp) (by rw [intsT_all]; exact List.mem_append_left _ hq)) (hw1.base (by simp)).size).mono fun e w2 h => ⟨h.1, (), trivial, h.2⟩) fun _ _ => ?_
 refine Xa ?_
 refine Ze (Zt (w_ret ?_))
 refine ret1 rfl rfl (fun w' hm => ⟨?_, hm.base (by simp)⟩)
 rfl
open Go.RowKit Go.PK
theorem ap3 : (Tryz.prog.info? 3).map (fun j => (j.zero, j.size, j.bytes)) = some (some (.int .i64 0), 1, 8) := by kernel_rfl
attribute [local irreducible] WX
end Go.Proofs.YtifekogdhjabaaaGreatDoor

namespace Go.Proofs.YtifekogdhjabaaaGreatDoor
open Go.RowKit Go.PK
theorem g_free {x : FM} (w : World) (hX : ∀ i v, (fxM x)[i]? = some v → w.cell? ⟨x.p, i, none⟩ = some v) (hok : fundOK x.g.s) :
  Calls Tryz.prog 81 #[.pointer (some ⟨x.p, 0, none⟩)] w fun e w' => e = .returned (.int .i64 (x.g.s.free)) ∧ Later w w' := by
 obtain ⟨ok1, ok2, ok3, ok4⟩ := id hok
 refine enter (vs := [.pointer (some ⟨x.p, 0, none⟩)]) Tryz.func81 rfl Tryz.ntmps81 rfl ?_
 refine Zs (Zr ?_)
 refine Xa ?_
 refine Ze (Zt (Zs ?_))
 refine rg_draw 18 [(true, 0), (true, 1), (true, 2), (true, 3), (true, 4), (true, 5), (true, 6), (true, 7), (true, 8), (true, 9), (true, 10), (true, 11), (true, 12), (true, 13), (true, 14), (true, 15), (true, 16), (true, 17)] Zk Zk ?_
 refine Xm ?_
 refine Xv rfl (v_nilCheck rfl) ?_
 refine Xv rfl (v_fieldAddr (off' := 0) u130 rfl sz71 (by decide) rfl rfl) ?_
 refine Xv rfl (v_fieldAddr (off' := 2) u71 rfl sz3 (by decide) rfl rfl) ?_
 refine Xv rfl (v_load u3 rfl rfl (at_ro (.head _) trivial (hX 2 _ rfl))) ?_
 refine Xm ?_
 refine Xv rfl (v_nilCheck rfl) ?_
 refine Xv rfl (v_fieldAddr (off' := 0) u130 rfl sz71 (by decide) rfl rfl) ?_
 refine Xv rfl (v_fieldAddr (off' := 3) u71 rfl sz3 (by decide) rfl rfl) ?_
 refine Xv rfl (v_load u3 rfl rfl (at_ro (.head _) trivial (hX 3 _ rfl))) ?_
 refine Xv rfl (v_subi rfl rfl rfl Zo) ?_
 refine Xm ?_
 refine Xv rfl (v_nilCheck rfl) ?_
 refine Xv rfl (v_fieldAddr (off' := 0) u130 rfl sz71 (by decide) rfl rfl) ?_
 refine Xv rfl (v_fieldAddr (off' := 4) u71 rfl sz3 (by decide) rfl rfl) ?_
 refine Xv rfl (v_load u3 rfl rfl (at_ro (.head _) trivial (hX 4 _ rfl))) ?_
 refine Xv rfl (v_subi rfl rfl rfl Zo) ?_
 refine Xa ?_
 refine Ze (Zt (w_ret ?_))
 refine ret1 rfl rfl (fun w' hm => ⟨?_, hm.base (by simp)⟩)
 rfl
theorem g_kept {x : FM} (w : World) (hX : ∀ i v, (fxM x)[i]? = some v → w.cell? ⟨x.p, i, none⟩ = some v) (hok : fundOK x.g.s) :
  Calls Tryz.prog 112 #[.pointer (some ⟨x.p, 0, none⟩)] w fun e w' => e = .returned (.int .i64 (x.g.s.en)) ∧ Later w w' := by
 refine enter (vs := [.pointer (some ⟨x.p, 0, none⟩)]) Tryz.func112 rfl Tryz.ntmps112 rfl ?_
 refine Zs (Zr ?_)
 refine Xa ?_
 refine Ze (Zt (Zs (Zr ?_)))
 refine Xm ?_
 refine Xv rfl (v_nilCheck rfl) ?_
 refine Xv rfl (v_fieldAddr (off' := 0) u130 rfl sz71 (by decide) rfl rfl) ?_
 refine Xv rfl (v_fieldAddr (off' := 4) u71 rfl sz3 (by decide) rfl rfl) ?_
 refine Xv rfl (v_load u3 rfl rfl (at_ro (.head _) trivial (hX 4 _ rfl))) ?_
 refine Xa ?_
 refine Ze (Zt (w_ret ?_))
 refine ret1 rfl rfl (fun w' hm => ⟨?_, hm.base (by simp)⟩)
 rfl
theorem g_encA {w : World} {l1 L : List (Nat × Obj)} {ro : List Snap} {x : FM} (n : Int) (hm : Mem w (l1 ++ (x.p, Obj.cells (fxM x).toArray 130) :: L) ro) (hok : fundOK x.g.s) (hn : 0 ≤ n ∧ n ≤ x.g.s.free) :
  Calls Tryz.prog 106 #[.pointer (some ⟨x.p, 0, none⟩), .int .i64 n] w fun e w' => e = .returned (.tuple #[]) ∧ Mem w' (l1 ++ (x.p, Obj.cells (fxM { x with g := { x.g with s := { x.g.s with en := x.g.s.en + n } } }).toArray 130) :: L) ro := by
 obtain ⟨ok1, ok2, ok3, ok4⟩ := id hok
 obtain ⟨hn1, hn2⟩ := hn
 try unfold FSt.free at hn2
 refine enter_in hm (vs := [.pointer (some ⟨x.p, 0, none⟩), .int .i64 n]) Tryz.func106 rfl Tryz.ntmps106 rfl ?_
 refine Zr ?_
 refine Xm ?_
 refine Xv rfl (v_nilCheck rfl) ?_
 refine Xv rfl (v_fieldAddr (off' := 0) u130 rfl sz71 (by decide) rfl rfl) ?_
 refine Xv rfl (v_fieldAddr (off' := 4) u71 rfl sz3 (by decide) rfl rfl) ?_
 refine Xv rfl (v_load u3 rfl rfl (at_ownL (vs := fxM x) (List.mem_append_right _ (.head _)) rfl)) ?_
 refine Xm ?_
 refine Xv rfl (v_addi rfl rfl rfl Zo) ?_
 refine Xv rfl (v_nilCheck rfl) ?_
 refine Xv rfl (v_fieldAddr (off' := 0) u130 rfl sz71 (by decide) rfl rfl) ?_
 refine Xv rfl (v_fieldAddr (off' := 4) u71 rfl sz3 (by decide) rfl rfl) ?_
 refine x_store (cs := fxM x) (off := 4) (e := 130) (l2 := L) l1 rfl rfl rfl rfl sz3 rfl (by show 5 ≤ 6; decide) ?_
 refine Ze ?_
 exact ret0 rfl (fun w' hm' => ⟨rfl, hm'⟩)
theorem g_relA {w : World} {l1 L : List (Nat × Obj)} {ro : List Snap} {x : FM} (n : Int) (hm : Mem w (l1 ++ (x.p, Obj.cells (fxM x).toArray 130) :: L) ro) (hok : fundOK x.g.s) (hn : 0 ≤ n ∧ n ≤ x.g.s.en) :
  Calls Tryz.prog 113 #[.pointer (some ⟨x.p, 0, none⟩), .int .i64 n] w fun e w' => e = .returned (.tuple #[]) ∧ Mem w' (l1 ++ (x.p, Obj.cells (fxM { x with g := { x.g with s := { x.g.s with en := x.g.s.en - n } } }).toArray 130) :: L) ro := by
 obtain ⟨ok1, ok2, ok3, ok4⟩ := id hok
 obtain ⟨hn1, hn2⟩ := hn
 try unfold FSt.free at hn2
 refine enter_in hm (vs := [.pointer (some ⟨x.p, 0, none⟩), .int .i64 n]) Tryz.func113 rfl Tryz.ntmps113 rfl ?_
 refine Zr ?_
 refine Xm ?_
 refine Xv rfl (v_nilCheck rfl) ?_
 refine Xv rfl (v_fieldAddr (off' := 0) u130 rfl sz71 (by decide) rfl rfl) ?_
 refine Xv rfl (v_fieldAddr (off' := 4) u71 rfl sz3 (by decide) rfl rfl) ?_
 refine Xv rfl (v_load u3 rfl rfl (at_ownL (vs := fxM x) (List.mem_append_right _ (.head _)) rfl)) ?_
 refine Xm ?_
 refine Xv rfl (v_subi rfl rfl rfl Zo) ?_
 refine Xv rfl (v_nilCheck rfl) ?_
 refine Xv rfl (v_fieldAddr (off' := 0) u130 rfl sz71 (by decide) rfl rfl) ?_
 refine Xv rfl (v_fieldAddr (off' := 4) u71 rfl sz3 (by decide) rfl rfl) ?_
 refine x_store (cs := fxM x) (off := 4) (e := 130) (l2 := L) l1 rfl rfl rfl rfl sz3 rfl (by show 5 ≤ 6; decide) ?_
 refine Ze ?_
 exact ret0 rfl (fun w' hm' => ⟨rfl, hm'⟩)
theorem g_spdA {w : World} {l1 L : List (Nat × Obj)} {ro : List Snap} {x : FM} (n : Int) (hm : Mem w (l1 ++ (x.p, Obj.cells (fxM x).toArray 130) :: L) ro) (hok : fundOK x.g.s) (hn : 0 ≤ n ∧ n ≤ x.g.s.free) :
  Calls Tryz.prog 118 #[.pointer (some ⟨x.p, 0, none⟩), .int .i64 n] w fun e w' => e = .returned (.tuple #[]) ∧ Mem w' (l1 ++ (x.p, Obj.cells (fxM { x with g := { x.g with s := { x.g.s with sp := x.g.s.sp + n } } }).toArray 130) :: L) ro := by
 obtain ⟨ok1, ok2, ok3, ok4⟩ := id hok
 obtain ⟨hn1, hn2⟩ := hn
 try unfold FSt.free at hn2
 refine enter_in hm (vs := [.pointer (some ⟨x.p, 0, none⟩), .int .i64 n]) Tryz.func118 rfl Tryz.ntmps118 rfl ?_
 refine Zr ?_
 refine Xm ?_
 refine Xv rfl (v_nilCheck rfl) ?_
 refine Xv rfl (v_fieldAddr (off' := 0) u130 rfl sz71 (by decide) rfl rfl) ?_
 refine Xv rfl (v_fieldAddr (off' := 3) u71 rfl sz3 (by decide) rfl rfl) ?_
 refine Xv rfl (v_load u3 rfl rfl (at_ownL (vs := fxM x) (List.mem_append_right _ (.head _)) rfl)) ?_
 refine Xm ?_
 refine Xv rfl (v_addi rfl rfl rfl Zo) ?_
 refine Xv rfl (v_nilCheck rfl) ?_
 refine Xv rfl (v_fieldAddr (off' := 0) u130 rfl sz71 (by decide) rfl rfl) ?_
 refine Xv rfl (v_fieldAddr (off' := 3) u71 rfl sz3 (by decide) rfl rfl) ?_
 refine x_store (cs := fxM x) (off := 3) (e := 130) (l2 := L) l1 rfl rfl rfl rfl sz3 rfl (by show 4 ≤ 6; decide) ?_
 refine Ze ?_
 exact ret0 rfl (fun w' hm' => ⟨rfl, hm'⟩)
theorem g_post_enc {w : World} {l1 L : List (Nat × Obj)} {ro : List Snap} {mF pF : Nat} {esF : Array MapEntry} {ckF : Nat} {money : Int} {Φ : Value → Option Value} {x : FM} {id : Int} (hm : Mem w (l1 ++ (x.p, Obj.cells (fxM x).toArray 130) :: L) ro) (hF : MapF Tryz.prog 3 esF Φ) (hmF : (mF, Obj.map esF ckF) ∈ l1 ++ (x.p, Obj.cells (fxM x).toArray 130) :: L) (hpF : (pF, Obj.cells (fnC mF money).toArray 125) ∈ l1 ++ (x.p, Obj.cells (fxM x).toArray 130) :: L) (hlk : Φ (.int .i64 id) = some (.pointer (some ⟨x.p, 0, none⟩))) (hid : in64 id) (hok : fundOK x.g.s) (n : Int) :
  Calls Tryz.prog 105 #[.pointer (some ⟨pF, 0, none⟩), .int .i64 id, .int .i64 n, .agg #[.func (.func 81) #[] #[], .func (.func 106) #[] #[]]] w fun e w' => e = .returned (.int .i64 (encP x.g.s n).1) ∧ ∃ u : Unit, True ∧ Mem w' (l1 ++ (x.p, Obj.cells (fxM { x with g := { x.g with s := (encP x.g.s n).2 } }).toArray 130) :: L) ro := by
 refine enter_in hm (vs := [.pointer (some ⟨pF, 0, none⟩), .int .i64 id, .int .i64 n, .agg #[.func (.func 81) #[] #[], .func (.func 106) #[] #[]]]) Tryz.func105 rfl Tryz.ntmps105 rfl ?_
 refine Zs (Zr ?_)
 refine x_box rfl rfl rfl rfl ?_
 intro p7
 refine Xa ?_
 refine Ze (Zt (Zs (Zs (Zr ?_))))
 refine Xm ?_
 refine Xv (v := Value.bool false) rfl (v_pnil (o := some ⟨pF, 0, none⟩) u35 rfl rfl) ?_
 refine Ze (Zt ?_)
 refine w_cond rfl (fun hc11 => ?_) (fun hc11 => ?_)
 ·cases hc11
 skip
 refine w_skip (Zt (Zs (Zr ?_)))
 refine Xm ?_
 refine Xv rfl (v_nilCheck rfl) ?_
 refine Xv rfl (v_fieldAddr (off' := 0) u125 rfl sz123 (by decide) rfl rfl) ?_
 refine Xv rfl (v_load u123 rfl rfl (at_ownL (vs := fnC mF money) (.tail _ hpF) rfl)) ?_
 refine Xm ?_
 refine Xv (v := Value.pointer (some ⟨x.p, 0, none⟩)) rfl (v_lookup u123 (Maps.int_keyed u3) zr126 rfl rfl (Maps.keyOf_int_mk u3 (wf_in hid)) (.tail _ hmF) hF (by rw [hlk]; rfl)) ?_
 refine Xa ?_
 refine Ze (Zt (Zs (w_block (Zs (Zr ?_)))))
 refine Xm ?_
 refine Xv (v := Value.bool false) rfl (v_pnil (o := some ⟨x.p, 0, none⟩) u126 rfl rfl) ?_
 refine Xa ?_
 refine Ze (Zt ?_)
 refine w_cond rfl (fun hc18 => ?_) (fun hc18 => ?_)
 ·cases hc18
 skip
 refine Zs (Zr ?_)
 refine Xm ?_
 refine Xb rfl (v_lss rfl rfl) fun b23 hb23 => ?_
 refine Xa ?_
 refine Ze (Zt ?_)
 refine w_cond rfl (fun hc21 => ?_) (fun hc21 => ?_)
 ·simp only [hb23, Qz, ne_eq] at hc21
  refine Zs (Zr ?_)
  refine Xa ?_
  refine Ze (Zt (w_ret (b_ret (t_ret ?_))))
  refine ret1 rfl rfl (fun w' hm' => ⟨?_, (), trivial, ?_⟩)
  ·unfold encP; rw [if_pos (by omega)]
  unfold encP; rw [if_pos (by omega)]; exact hm'.less (List.sublist_cons_self _ _) (fun _ h => h)
 simp only [hb23, Qz, ne_eq] at hc21
 refine Zs (Zr ?_)
 refine Xm ?_
 refine Xv rfl (v_fieldAddr (off' := 0) u165 rfl sz162 (by decide) rfl rfl) ?_
 refine Xv rfl (Vl u162 rfl) ?_
 refine Xm ?_
 refine x_clv (cap := #[]) rfl rfl rfl rfl Tryz.func81 Zk rfl (fun w1 hw1 => by simpa using g_free (x := x) w1 (fun i v hv => at_ownL (vs := fxM x) (.tail _ (List.mem_append_right _ (.head _))) hv w1 hw1) hok) ?_
 refine Xb rfl (v_gtr rfl rfl) fun b30 hb30 => ?_
 refine Xa ?_
 refine Ze (Zt ?_)
 refine w_cond rfl (fun hc24 => ?_) (fun hc24 => ?_)
 ·simp only [hb30, Qz, ne_eq] at hc24
  refine Zs (Zr ?_)
  refine Xa ?_
  refine Ze (Zt (w_ret (b_ret (t_ret ?_))))
  refine ret1 rfl rfl (fun w' hm' => ⟨?_, (), trivial, ?_⟩)
  ·unfold encP; rw [if_neg (by omega), if_pos (by omega)]
  unfold encP; rw [if_neg (by omega), if_pos (by omega)]; exact hm'.less (List.sublist_cons_self _ _) (fun _ h => h)
 simp only [hb30, Qz, ne_eq] at hc24
 refine w_skip (b_norm (Zt (Zs (Zr ?_))))
 refine Xv rfl (v_fieldAddr (off' := 1) u165 rfl sz163 (by decide) rfl rfl) ?_
 refine Xv rfl (Vl u163 rfl) ?_
 refine Xm ?_
 refine Xm ?_
 refine x_turn (τ := Unit) (v := Value.tuple #[]) (fst := #[]) (cap := #[]) (fun _ => True) (fun _ => (p7, Obj.cells [Value.func (.func 81) #[] #[], .func (.func 106) #[] #[]].toArray 165) :: (l1 ++ (x.p, Obj.cells (fxM { x with g := { x.g with s := { x.g.s with en := x.g.s.en + n } } }).toArray 130) :: L)) rfl rfl rfl Tryz.func106 Zk rfl (fun w1 hw1 => by simpa using g_encA (l1 := (p7, Obj.cells [Value.func (.func 81) #[] #[], .func (.func 106) #[] #[]].toArray 165) :: l1) n hw1 hok (by omega)) fun _ _ => ?_
 refine Ze (Zt (Zs (Zr ?_)))
 refine Xa ?_
 refine Ze (Zt (w_ret ?_))
 refine ret1 rfl rfl (fun w' hm' => ⟨?_, (), trivial, ?_⟩)
 ·unfold encP; rw [if_neg (by omega), if_neg (by omega)]
 unfold encP; rw [if_neg (by omega), if_neg (by omega)]; exact hm'.less (List.sublist_cons_self _ _) (fun _ h => h)
theorem g_post_encM {w : World} {own : List (Nat × Obj)} {ro : List Snap} {mF pF : Nat} {esF : Array MapEntry} {ckF : Nat} {money : Int} {Φ : Value → Option Value} {id : Int} (hm : Mem w own ro) (hF : MapF Tryz.prog 3 esF Φ) (hmF : (mF, Obj.map esF ckF) ∈ own) (hpF : (pF, Obj.cells (fnC mF money).toArray 125) ∈ own) (hlk : Φ (.int .i64 id) = none) (hid : in64 id) (n : Int) :
  Calls Tryz.prog 105 #[.pointer (some ⟨pF, 0, none⟩), .int .i64 id, .int .i64 n, .agg #[.func (.func 81) #[] #[], .func (.func 106) #[] #[]]] w fun e w' => e = .returned (.int .i64 32) ∧ Mem w' own ro := by
 refine enter_in hm (vs := [.pointer (some ⟨pF, 0, none⟩), .int .i64 id, .int .i64 n, .agg #[.func (.func 81) #[] #[], .func (.func 106) #[] #[]]]) Tryz.func105 rfl Tryz.ntmps105 rfl ?_
 refine Zs (Zr ?_)
 refine x_box rfl rfl rfl rfl ?_
 intro p7
 refine Xa ?_
 refine Ze (Zt (Zs (Zs (Zr ?_))))
 refine Xm ?_
 refine Xv (v := Value.bool false) rfl (v_pnil (o := some ⟨pF, 0, none⟩) u35 rfl rfl) ?_
 refine Ze (Zt ?_)
 refine w_cond rfl (fun hc11 => ?_) (fun hc11 => ?_)
 ·cases hc11
 skip
 refine w_skip (Zt (Zs (Zr ?_)))
 refine Xm ?_
 refine Xv rfl (v_nilCheck rfl) ?_
 refine Xv rfl (v_fieldAddr (off' := 0) u125 rfl sz123 (by decide) rfl rfl) ?_
 refine Xv rfl (v_load u123 rfl rfl (at_ownL (vs := fnC mF money) (.tail _ hpF) rfl)) ?_
 refine Xm ?_
 refine Xv (v := Value.pointer none) rfl (v_lookup u123 (Maps.int_keyed u3) zr126 rfl rfl (Maps.keyOf_int_mk u3 (wf_in hid)) (.tail _ hmF) hF (by rw [hlk]; rfl)) ?_
 refine Xa ?_
 refine Ze (Zt (Zs (w_block (Zs (Zr ?_)))))
 refine Xm ?_
 refine Xv (v := Value.bool true) rfl (v_pnil (o := none) u126 rfl rfl) ?_
 refine Xa ?_
 refine Ze (Zt ?_)
 refine w_cond rfl (fun hc18 => ?_) (fun hc18 => ?_)
 ·skip
  refine Zs (Zr ?_)
  refine Xa ?_
  refine Ze (Zt (w_ret (b_ret (t_ret ?_))))
  exact ret1 rfl rfl (fun w' hm' => ⟨rfl, hm'.less (List.sublist_cons_self _ _) (fun _ h => h)⟩)
 cases hc18
theorem g_enc1 {w : World} {l1 L : List (Nat × Obj)} {ro : List Snap} {mF pF : Nat} {esF : Array MapEntry} {ckF : Nat} {money : Int} {Φ : Value → Option Value} {x : FM} {id : Int} (hm : Mem w (l1 ++ (x.p, Obj.cells (fxM x).toArray 130) :: L) ro) (hF : MapF Tryz.prog 3 esF Φ) (hmF : (mF, Obj.map esF ckF) ∈ l1 ++ (x.p, Obj.cells (fxM x).toArray 130) :: L) (hpF : (pF, Obj.cells (fnC mF money).toArray 125) ∈ l1 ++ (x.p, Obj.cells (fxM x).toArray 130) :: L) (hlk : Φ (.int .i64 id) = some (.pointer (some ⟨x.p, 0, none⟩))) (hid : in64 id) (hok : fundOK x.g.s) (n : Int) :
  Calls Tryz.prog 52 #[.pointer (some ⟨pF, 0, none⟩), .int .i64 id, .int .i64 n] w fun e w' => e = .returned (.int .i64 (encP x.g.s n).1) ∧ ∃ u : Unit, True ∧ Mem w' (l1 ++ (x.p, Obj.cells (fxM { x with g := { x.g with s := (encP x.g.s n).2 } }).toArray 130) :: L) ro := by
 refine enter_in hm (vs := [.pointer (some ⟨pF, 0, none⟩), .int .i64 id, .int .i64 n]) Tryz.func52 rfl Tryz.ntmps52 rfl ?_
 refine Zs (Zr ?_)
 refine Xa ?_
 refine Ze (Zt (Zs (Zr ?_)))
 refine Xm ?_
 refine Xm ?_
 refine Xm ?_
 refine Xv rfl (v_buildL (places := [(0, 1), (1, 1)]) u165 zr165 Zk rfl rfl) ?_
 refine x_turnf (τ := Unit) (v := .int .i64 (encP x.g.s n).1) (fun _ => True) (fun _ => l1 ++ (x.p, Obj.cells (fxM { x with g := { x.g with s := (encP x.g.s n).2 } }).toArray 130) :: L) rfl rfl Tryz.func105 Zk rfl (fun w1 hw1 => g_post_enc hw1 hF hmF hpF hlk hid hok n) fun _ _ => ?_
 refine Xa ?_
 refine Ze (Zt (w_ret ?_))
 exact ret1 rfl rfl (fun w' hm' => ⟨rfl, (), trivial, hm'⟩)
theorem g_encM {w : World} {own : List (Nat × Obj)} {ro : List Snap} {mF pF : Nat} {esF : Array MapEntry} {ckF : Nat} {money : Int} {Φ : Value → Option Value} {id : Int} (hm : Mem w own ro) (hF : MapF Tryz.prog 3 esF Φ) (hmF : (mF, Obj.map esF ckF) ∈ own) (hpF : (pF, Obj.cells (fnC mF money).toArray 125) ∈ own) (hlk : Φ (.int .i64 id) = none) (hid : in64 id) (n : Int) :
  Calls Tryz.prog 52 #[.pointer (some ⟨pF, 0, none⟩), .int .i64 id, .int .i64 n] w fun e w' => e = .returned (.int .i64 32) ∧ Mem w' own ro := by
 refine enter_in hm (vs := [.pointer (some ⟨pF, 0, none⟩), .int .i64 id, .int .i64 n]) Tryz.func52 rfl Tryz.ntmps52 rfl ?_
 refine Zs (Zr ?_)
 refine Xa ?_
 refine Ze (Zt (Zs (Zr ?_)))
 refine Xm ?_
 refine Xm ?_
 refine Xm ?_
 refine Xv rfl (v_buildL (places := [(0, 1), (1, 1)]) u165 zr165 Zk rfl rfl) ?_
 refine x_turnf (τ := Unit) (v := .int .i64 32) (fun _ => True) (fun _ => own) rfl rfl Tryz.func105 Zk rfl (fun w1 hw1 => (g_post_encM hw1 hF hmF hpF hlk hid n).mono fun e w2 h => ⟨h.1, (), trivial, h.2⟩) fun _ _ => ?_
 refine Xa ?_
 refine Ze (Zt (w_ret ?_))
 exact ret1 rfl rfl (fun w' hm' => ⟨rfl, hm'⟩)
theorem g_enc {w : World} {l1 L : List (Nat × Obj)} {ro : List Snap} {mF pF : Nat} {esF : Array MapEntry} {ckF : Nat} {money : Int} {ms : List FM} (hm : Mem w (l1 ++ (FB 130 ms ++ L)) ro) (hF : MapF Tryz.prog 3 esF (fMM ms)) (hmF : (mF, Obj.map esF ckF) ∈ l1 ++ (FB 130 ms ++ L)) (hpF : (pF, Obj.cells (fnC mF money).toArray 125) ∈ l1 ++ (FB 130 ms ++ L)) (hok : ∀ f ∈ fsM ms, fundOK f.s) (id : Int) (hid : in64 id) (n : Int) :
  Calls Tryz.prog 52 #[.pointer (some ⟨pF, 0, none⟩), .int .i64 id, .int .i64 n] w fun e w' => e = .returned (.int .i64 (postG encP (fsM ms) id n).1) ∧ ∃ q : List FM, (fsM q = (postG encP (fsM ms) id n).2 ∧ fMM q = fMM ms) ∧ Mem w' (l1 ++ (FB 130 q ++ L)) ro := by
 unfold postG
 rw [lkM_F]
 cases hl : lkM ms id with
 | none =>
  exact (g_encM hm hF hmF hpF (show (lkM ms id).map _ = none by rw [hl]; rfl) hid n).mono fun e w2 h => ⟨h.1, ms, ⟨rfl, rfl⟩, h.2⟩
 | some x =>
  obtain ⟨a, c, h1, h2, h3⟩ := lkM_split hl
  have e1 : l1 ++ (FB 130 ms ++ L) = (l1 ++ FB 130 a) ++ (x.p, Obj.cells (fxM x).toArray 130) :: (FB 130 c ++ L) := by rw [h1, FB_mid]; simp
  have hx : fundOK x.g.s := hok x.g (List.mem_map_of_mem (by rw [h1]; simp))
  have h := g_enc1 (hm.to e1) hF (by rw [← e1]; exact hmF) (by rw [← e1]; exact hpF) (show (lkM ms id).map _ = _ by rw [hl]; rfl) hid hx n
  refine h.mono fun e w2 ⟨k1, _, _, k2⟩ => ⟨k1, setM ms id (encP x.g.s n).2, ⟨setM_F ms id _, fMM_set ms id _⟩, k2.to ?_⟩
  rw [h3, FB_mid]; simp
theorem g_post_rel {w : World} {l1 L : List (Nat × Obj)} {ro : List Snap} {mF pF : Nat} {esF : Array MapEntry} {ckF : Nat} {money : Int} {Φ : Value → Option Value} {x : FM} {id : Int} (hm : Mem w (l1 ++ (x.p, Obj.cells (fxM x).toArray 130) :: L) ro) (hF : MapF Tryz.prog 3 esF Φ) (hmF : (mF, Obj.map esF ckF) ∈ l1 ++ (x.p, Obj.cells (fxM x).toArray 130) :: L) (hpF : (pF, Obj.cells (fnC mF money).toArray 125) ∈ l1 ++ (x.p, Obj.cells (fxM x).toArray 130) :: L) (hlk : Φ (.int .i64 id) = some (.pointer (some ⟨x.p, 0, none⟩))) (hid : in64 id) (hok : fundOK x.g.s) (n : Int) :
  Calls Tryz.prog 105 #[.pointer (some ⟨pF, 0, none⟩), .int .i64 id, .int .i64 n, .agg #[.func (.func 112) #[] #[], .func (.func 113) #[] #[]]] w fun e w' => e = .returned (.int .i64 (relP x.g.s n).1) ∧ ∃ u : Unit, True ∧ Mem w' (l1 ++ (x.p, Obj.cells (fxM { x with g := { x.g with s := (relP x.g.s n).2 } }).toArray 130) :: L) ro := by
 refine enter_in hm (vs := [.pointer (some ⟨pF, 0, none⟩), .int .i64 id, .int .i64 n, .agg #[.func (.func 112) #[] #[], .func (.func 113) #[] #[]]]) Tryz.func105 rfl Tryz.ntmps105 rfl ?_
 refine Zs (Zr ?_)
 refine x_box rfl rfl rfl rfl ?_
 intro p7
 refine Xa ?_
 refine Ze (Zt (Zs (Zs (Zr ?_))))
 refine Xm ?_
 refine Xv (v := Value.bool false) rfl (v_pnil (o := some ⟨pF, 0, none⟩) u35 rfl rfl) ?_
 refine Ze (Zt ?_)
 refine w_cond rfl (fun hc11 => ?_) (fun hc11 => ?_)
 ·cases hc11
 skip
 refine w_skip (Zt (Zs (Zr ?_)))
 refine Xm ?_
 refine Xv rfl (v_nilCheck rfl) ?_
 refine Xv rfl (v_fieldAddr (off' := 0) u125 rfl sz123 (by decide) rfl rfl) ?_
 refine Xv rfl (v_load u123 rfl rfl (at_ownL (vs := fnC mF money) (.tail _ hpF) rfl)) ?_
 refine Xm ?_
 refine Xv (v := Value.pointer (some ⟨x.p, 0, none⟩)) rfl (v_lookup u123 (Maps.int_keyed u3) zr126 rfl rfl (Maps.keyOf_int_mk u3 (wf_in hid)) (.tail _ hmF) hF (by rw [hlk]; rfl)) ?_
 refine Xa ?_
 refine Ze (Zt (Zs (w_block (Zs (Zr ?_)))))
 refine Xm ?_
 refine Xv (v := Value.bool false) rfl (v_pnil (o := some ⟨x.p, 0, none⟩) u126 rfl rfl) ?_
 refine Xa ?_
 refine Ze (Zt ?_)
 refine w_cond rfl (fun hc18 => ?_) (fun hc18 => ?_)
 ·cases hc18
 skip
 refine Zs (Zr ?_)
 refine Xm ?_
 refine Xb rfl (v_lss rfl rfl) fun b23 hb23 => ?_
 refine Xa ?_
 refine Ze (Zt ?_)
 refine w_cond rfl (fun hc21 => ?_) (fun hc21 => ?_)
 ·simp only [hb23, Qz, ne_eq] at hc21
  refine Zs (Zr ?_)
  refine Xa ?_
  refine Ze (Zt (w_ret (b_ret (t_ret ?_))))
  refine ret1 rfl rfl (fun w' hm' => ⟨?_, (), trivial, ?_⟩)
  ·unfold relP; rw [if_pos (by omega)]
  unfold relP; rw [if_pos (by omega)]; exact hm'.less (List.sublist_cons_self _ _) (fun _ h => h)
 simp only [hb23, Qz, ne_eq] at hc21
 refine Zs (Zr ?_)
 refine Xm ?_
 refine Xv rfl (v_fieldAddr (off' := 0) u165 rfl sz162 (by decide) rfl rfl) ?_
 refine Xv rfl (Vl u162 rfl) ?_
 refine Xm ?_
 refine x_clv (cap := #[]) rfl rfl rfl rfl Tryz.func112 Zk rfl (fun w1 hw1 => by simpa using g_kept (x := x) w1 (fun i v hv => at_ownL (vs := fxM x) (.tail _ (List.mem_append_right _ (.head _))) hv w1 hw1) hok) ?_
 refine Xb rfl (v_gtr rfl rfl) fun b30 hb30 => ?_
 refine Xa ?_
 refine Ze (Zt ?_)
 refine w_cond rfl (fun hc24 => ?_) (fun hc24 => ?_)
 ·simp only [hb30, Qz, ne_eq] at hc24
  refine Zs (Zr ?_)
  refine Xa ?_
  refine Ze (Zt (w_ret (b_ret (t_ret ?_))))
  refine ret1 rfl rfl (fun w' hm' => ⟨?_, (), trivial, ?_⟩)
  ·unfold relP; rw [if_neg (by omega), if_pos (by omega)]
  unfold relP; rw [if_neg (by omega), if_pos (by omega)]; exact hm'.less (List.sublist_cons_self _ _) (fun _ h => h)
 simp only [hb30, Qz, ne_eq] at hc24
 refine w_skip (b_norm (Zt (Zs (Zr ?_))))
 refine Xv rfl (v_fieldAddr (off' := 1) u165 rfl sz163 (by decide) rfl rfl) ?_
 refine Xv rfl (Vl u163 rfl) ?_
 refine Xm ?_
 refine Xm ?_
 refine x_turn (τ := Unit) (v := Value.tuple #[]) (fst := #[]) (cap := #[]) (fun _ => True) (fun _ => (p7, Obj.cells [Value.func (.func 112) #[] #[], .func (.func 113) #[] #[]].toArray 165) :: (l1 ++ (x.p, Obj.cells (fxM { x with g := { x.g with s := { x.g.s with en := x.g.s.en - n } } }).toArray 130) :: L)) rfl rfl rfl Tryz.func113 Zk rfl (fun w1 hw1 => by simpa using g_relA (l1 := (p7, Obj.cells [Value.func (.func 112) #[] #[], .func (.func 113) #[] #[]].toArray 165) :: l1) n hw1 hok (by omega)) fun _ _ => ?_
 refine Ze (Zt (Zs (Zr ?_)))
 refine Xa ?_
 refine Ze (Zt (w_ret ?_))
 refine ret1 rfl rfl (fun w' hm' => ⟨?_, (), trivial, ?_⟩)
 ·unfold relP; rw [if_neg (by omega), if_neg (by omega)]
 unfold relP; rw [if_neg (by omega), if_neg (by omega)]; exact hm'.less (List.sublist_cons_self _ _) (fun _ h => h)
theorem g_post_relM {w : World} {own : List (Nat × Obj)} {ro : List Snap} {mF pF : Nat} {esF : Array MapEntry} {ckF : Nat} {money : Int} {Φ : Value → Option Value} {id : Int} (hm : Mem w own ro) (hF : MapF Tryz.prog 3 esF Φ) (hmF : (mF, Obj.map esF ckF) ∈ own) (hpF : (pF, Obj.cells (fnC mF money).toArray 125) ∈ own) (hlk : Φ (.int .i64 id) = none) (hid : in64 id) (n : Int) :
  Calls Tryz.prog 105 #[.pointer (some ⟨pF, 0, none⟩), .int .i64 id, .int .i64 n, .agg #[.func (.func 112) #[] #[], .func (.func 113) #[] #[]]] w fun e w' => e = .returned (.int .i64 32) ∧ Mem w' own ro := by
 refine enter_in hm (vs := [.pointer (some ⟨pF, 0, none⟩), .int .i64 id, .int .i64 n, .agg #[.func (.func 112) #[] #[], .func (.func 113) #[] #[]]]) Tryz.func105 rfl Tryz.ntmps105 rfl ?_
 refine Zs (Zr ?_)
 refine x_box rfl rfl rfl rfl ?_
 intro p7
 refine Xa ?_
 refine Ze (Zt (Zs (Zs (Zr ?_))))
 refine Xm ?_
 refine Xv (v := Value.bool false) rfl (v_pnil (o := some ⟨pF, 0, none⟩) u35 rfl rfl) ?_
 refine Ze (Zt ?_)
 refine w_cond rfl (fun hc11 => ?_) (fun hc11 => ?_)
 ·cases hc11
 skip
 refine w_skip (Zt (Zs (Zr ?_)))
 refine Xm ?_
 refine Xv rfl (v_nilCheck rfl) ?_
 refine Xv rfl (v_fieldAddr (off' := 0) u125 rfl sz123 (by decide) rfl rfl) ?_
 refine Xv rfl (v_load u123 rfl rfl (at_ownL (vs := fnC mF money) (.tail _ hpF) rfl)) ?_
 refine Xm ?_
 refine Xv (v := Value.pointer none) rfl (v_lookup u123 (Maps.int_keyed u3) zr126 rfl rfl (Maps.keyOf_int_mk u3 (wf_in hid)) (.tail _ hmF) hF (by rw [hlk]; rfl)) ?_
 refine Xa ?_
 refine Ze (Zt (Zs (w_block (Zs (Zr ?_)))))
 refine Xm ?_
 refine Xv (v := Value.bool true) rfl (v_pnil (o := none) u126 rfl rfl) ?_
 refine Xa ?_
 refine Ze (Zt ?_)
 refine w_cond rfl (fun hc18 => ?_) (fun hc18 => ?_)
 ·skip
  refine Zs (Zr ?_)
  refine Xa ?_
  refine Ze (Zt (w_ret (b_ret (t_ret ?_))))
  exact ret1 rfl rfl (fun w' hm' => ⟨rfl, hm'.less (List.sublist_cons_self _ _) (fun _ h => h)⟩)
 cases hc18
theorem g_rel1 {w : World} {l1 L : List (Nat × Obj)} {ro : List Snap} {mF pF : Nat} {esF : Array MapEntry} {ckF : Nat} {money : Int} {Φ : Value → Option Value} {x : FM} {id : Int} (hm : Mem w (l1 ++ (x.p, Obj.cells (fxM x).toArray 130) :: L) ro) (hF : MapF Tryz.prog 3 esF Φ) (hmF : (mF, Obj.map esF ckF) ∈ l1 ++ (x.p, Obj.cells (fxM x).toArray 130) :: L) (hpF : (pF, Obj.cells (fnC mF money).toArray 125) ∈ l1 ++ (x.p, Obj.cells (fxM x).toArray 130) :: L) (hlk : Φ (.int .i64 id) = some (.pointer (some ⟨x.p, 0, none⟩))) (hid : in64 id) (hok : fundOK x.g.s) (n : Int) :
  Calls Tryz.prog 58 #[.pointer (some ⟨pF, 0, none⟩), .int .i64 id, .int .i64 n] w fun e w' => e = .returned (.int .i64 (relP x.g.s n).1) ∧ ∃ u : Unit, True ∧ Mem w' (l1 ++ (x.p, Obj.cells (fxM { x with g := { x.g with s := (relP x.g.s n).2 } }).toArray 130) :: L) ro := by
 refine enter_in hm (vs := [.pointer (some ⟨pF, 0, none⟩), .int .i64 id, .int .i64 n]) Tryz.func58 rfl Tryz.ntmps58 rfl ?_
 refine Zs (Zr ?_)
 refine Xa ?_
 refine Ze (Zt (Zs (Zr ?_)))
 refine Xa ?_
 refine Ze (Zt (Zs (Zr ?_)))
 refine Xm ?_
 refine Xm ?_
 refine Xm ?_
 refine Xm ?_
 refine Xv rfl (v_buildL (places := [(0, 1), (1, 1)]) u165 zr165 Zk rfl rfl) ?_
 refine x_turnf (τ := Unit) (v := .int .i64 (relP x.g.s n).1) (fun _ => True) (fun _ => l1 ++ (x.p, Obj.cells (fxM { x with g := { x.g with s := (relP x.g.s n).2 } }).toArray 130) :: L) rfl rfl Tryz.func105 Zk rfl (fun w1 hw1 => g_post_rel hw1 hF hmF hpF hlk hid hok n) fun _ _ => ?_
 refine Xa ?_
 refine Ze (Zt (w_ret ?_))
 exact ret1 rfl rfl (fun w' hm' => ⟨rfl, (), trivial, hm'⟩)
theorem g_relM {w : World} {own : List (Nat × Obj)} {ro : List Snap} {mF pF : Nat} {esF : Array MapEntry} {ckF : Nat} {money : Int} {Φ : Value → Option Value} {id : Int} (hm : Mem w own ro) (hF : MapF Tryz.prog 3 esF Φ) (hmF : (mF, Obj.map esF ckF) ∈ own) (hpF : (pF, Obj.cells (fnC mF money).toArray 125) ∈ own) (hlk : Φ (.int .i64 id) = none) (hid : in64 id) (n : Int) :
  Calls Tryz.prog 58 #[.pointer (some ⟨pF, 0, none⟩), .int .i64 id, .int .i64 n] w fun e w' => e = .returned (.int .i64 32) ∧ Mem w' own ro := by
 refine enter_in hm (vs := [.pointer (some ⟨pF, 0, none⟩), .int .i64 id, .int .i64 n]) Tryz.func58 rfl Tryz.ntmps58 rfl ?_
 refine Zs (Zr ?_)
 refine Xa ?_
 refine Ze (Zt (Zs (Zr ?_)))
 refine Xa ?_
 refine Ze (Zt (Zs (Zr ?_)))
 refine Xm ?_
 refine Xm ?_
 refine Xm ?_
 refine Xm ?_
 refine Xv rfl (v_buildL (places := [(0, 1), (1, 1)]) u165 zr165 Zk rfl rfl) ?_
 refine x_turnf (τ := Unit) (v := .int .i64 32) (fun _ => True) (fun _ => own) rfl rfl Tryz.func105 Zk rfl (fun w1 hw1 => (g_post_relM hw1 hF hmF hpF hlk hid n).mono fun e w2 h => ⟨h.1, (), trivial, h.2⟩) fun _ _ => ?_
 refine Xa ?_
 refine Ze (Zt (w_ret ?_))
 exact ret1 rfl rfl (fun w' hm' => ⟨rfl, hm'⟩)
theorem g_rel {w : World} {l1 L : List (Nat × Obj)} {ro : List Snap} {mF pF : Nat} {esF : Array MapEntry} {ckF : Nat} {money : Int} {ms : List FM} (hm : Mem w (l1 ++ (FB 130 ms ++ L)) ro) (hF : MapF Tryz.prog 3 esF (fMM ms)) (hmF : (mF, Obj.map esF ckF) ∈ l1 ++ (FB 130 ms ++ L)) (hpF : (pF, Obj.cells (fnC mF money).toArray 125) ∈ l1 ++ (FB 130 ms ++ L)) (hok : ∀ f ∈ fsM ms, fundOK f.s) (id : Int) (hid : in64 id) (n : Int) :
  Calls Tryz.prog 58 #[.pointer (some ⟨pF, 0, none⟩), .int .i64 id, .int .i64 n] w fun e w' => e = .returned (.int .i64 (postG relP (fsM ms) id n).1) ∧ ∃ q : List FM, (fsM q = (postG relP (fsM ms) id n).2 ∧ fMM q = fMM ms) ∧ Mem w' (l1 ++ (FB 130 q ++ L)) ro := by
 unfold postG
 rw [lkM_F]
 cases hl : lkM ms id with
 | none =>
  exact (g_relM hm hF hmF hpF (show (lkM ms id).map _ = none by rw [hl]; rfl) hid n).mono fun e w2 h => ⟨h.1, ms, ⟨rfl, rfl⟩, h.2⟩
 | some x =>
  obtain ⟨a, c, h1, h2, h3⟩ := lkM_split hl
  have e1 : l1 ++ (FB 130 ms ++ L) = (l1 ++ FB 130 a) ++ (x.p, Obj.cells (fxM x).toArray 130) :: (FB 130 c ++ L) := by rw [h1, FB_mid]; simp
  have hx : fundOK x.g.s := hok x.g (List.mem_map_of_mem (by rw [h1]; simp))
  have h := g_rel1 (hm.to e1) hF (by rw [← e1]; exact hmF) (by rw [← e1]; exact hpF) (show (lkM ms id).map _ = _ by rw [hl]; rfl) hid hx n
  refine h.mono fun e w2 ⟨k1, _, _, k2⟩ => ⟨k1, setM ms id (relP x.g.s n).2, ⟨setM_F ms id _, fMM_set ms id _⟩, k2.to ?_⟩
  rw [h3, FB_mid]; simp
theorem g_post_spd {w : World} {l1 L : List (Nat × Obj)} {ro : List Snap} {mF pF : Nat} {esF : Array MapEntry} {ckF : Nat} {money : Int} {Φ : Value → Option Value} {x : FM} {id : Int} (hm : Mem w (l1 ++ (x.p, Obj.cells (fxM x).toArray 130) :: L) ro) (hF : MapF Tryz.prog 3 esF Φ) (hmF : (mF, Obj.map esF ckF) ∈ l1 ++ (x.p, Obj.cells (fxM x).toArray 130) :: L) (hpF : (pF, Obj.cells (fnC mF money).toArray 125) ∈ l1 ++ (x.p, Obj.cells (fxM x).toArray 130) :: L) (hlk : Φ (.int .i64 id) = some (.pointer (some ⟨x.p, 0, none⟩))) (hid : in64 id) (hok : fundOK x.g.s) (n : Int) :
  Calls Tryz.prog 105 #[.pointer (some ⟨pF, 0, none⟩), .int .i64 id, .int .i64 n, .agg #[.func (.func 81) #[] #[], .func (.func 118) #[] #[]]] w fun e w' => e = .returned (.int .i64 (spdP x.g.s n).1) ∧ ∃ u : Unit, True ∧ Mem w' (l1 ++ (x.p, Obj.cells (fxM { x with g := { x.g with s := (spdP x.g.s n).2 } }).toArray 130) :: L) ro := by
 refine enter_in hm (vs := [.pointer (some ⟨pF, 0, none⟩), .int .i64 id, .int .i64 n, .agg #[.func (.func 81) #[] #[], .func (.func 118) #[] #[]]]) Tryz.func105 rfl Tryz.ntmps105 rfl ?_
 refine Zs (Zr ?_)
 refine x_box rfl rfl rfl rfl ?_
 intro p7
 refine Xa ?_
 refine Ze (Zt (Zs (Zs (Zr ?_))))
 refine Xm ?_
 refine Xv (v := Value.bool false) rfl (v_pnil (o := some ⟨pF, 0, none⟩) u35 rfl rfl) ?_
 refine Ze (Zt ?_)
 refine w_cond rfl (fun hc11 => ?_) (fun hc11 => ?_)
 ·cases hc11
 skip
 refine w_skip (Zt (Zs (Zr ?_)))
 refine Xm ?_
 refine Xv rfl (v_nilCheck rfl) ?_
 refine Xv rfl (v_fieldAddr (off' := 0) u125 rfl sz123 (by decide) rfl rfl) ?_
 refine Xv rfl (v_load u123 rfl rfl (at_ownL (vs := fnC mF money) (.tail _ hpF) rfl)) ?_
 refine Xm ?_
 refine Xv (v := Value.pointer (some ⟨x.p, 0, none⟩)) rfl (v_lookup u123 (Maps.int_keyed u3) zr126 rfl rfl (Maps.keyOf_int_mk u3 (wf_in hid)) (.tail _ hmF) hF (by rw [hlk]; rfl)) ?_
 refine Xa ?_
 refine Ze (Zt (Zs (w_block (Zs (Zr ?_)))))
 refine Xm ?_
 refine Xv (v := Value.bool false) rfl (v_pnil (o := some ⟨x.p, 0, none⟩) u126 rfl rfl) ?_
 refine Xa ?_
 refine Ze (Zt ?_)
 refine w_cond rfl (fun hc18 => ?_) (fun hc18 => ?_)
 ·cases hc18
 skip
 refine Zs (Zr ?_)
 refine Xm ?_
 refine Xb rfl (v_lss rfl rfl) fun b23 hb23 => ?_
 refine Xa ?_
 refine Ze (Zt ?_)
 refine w_cond rfl (fun hc21 => ?_) (fun hc21 => ?_)
 ·simp only [hb23, Qz, ne_eq] at hc21
  refine Zs (Zr ?_)
  refine Xa ?_
  refine Ze (Zt (w_ret (b_ret (t_ret ?_))))
  refine ret1 rfl rfl (fun w' hm' => ⟨?_, (), trivial, ?_⟩)
  ·unfold spdP; rw [if_pos (by omega)]
  unfold spdP; rw [if_pos (by omega)]; exact hm'.less (List.sublist_cons_self _ _) (fun _ h => h)
 simp only [hb23, Qz, ne_eq] at hc21
 refine Zs (Zr ?_)
 refine Xm ?_
 refine Xv rfl (v_fieldAddr (off' := 0) u165 rfl sz162 (by decide) rfl rfl) ?_
 refine Xv rfl (Vl u162 rfl) ?_
 refine Xm ?_
 refine x_clv (cap := #[]) rfl rfl rfl rfl Tryz.func81 Zk rfl (fun w1 hw1 => by simpa using g_free (x := x) w1 (fun i v hv => at_ownL (vs := fxM x) (.tail _ (List.mem_append_right _ (.head _))) hv w1 hw1) hok) ?_
 refine Xb rfl (v_gtr rfl rfl) fun b30 hb30 => ?_
 refine Xa ?_
 refine Ze (Zt ?_)
 refine w_cond rfl (fun hc24 => ?_) (fun hc24 => ?_)
 ·simp only [hb30, Qz, ne_eq] at hc24
  refine Zs (Zr ?_)
  refine Xa ?_
  refine Ze (Zt (w_ret (b_ret (t_ret ?_))))
  refine ret1 rfl rfl (fun w' hm' => ⟨?_, (), trivial, ?_⟩)
  ·unfold spdP; rw [if_neg (by omega), if_pos (by omega)]
  unfold spdP; rw [if_neg (by omega), if_pos (by omega)]; exact hm'.less (List.sublist_cons_self _ _) (fun _ h => h)
 simp only [hb30, Qz, ne_eq] at hc24
 refine w_skip (b_norm (Zt (Zs (Zr ?_))))
 refine Xv rfl (v_fieldAddr (off' := 1) u165 rfl sz163 (by decide) rfl rfl) ?_
 refine Xv rfl (Vl u163 rfl) ?_
 refine Xm ?_
 refine Xm ?_
 refine x_turn (τ := Unit) (v := Value.tuple #[]) (fst := #[]) (cap := #[]) (fun _ => True) (fun _ => (p7, Obj.cells [Value.func (.func 81) #[] #[], .func (.func 118) #[] #[]].toArray 165) :: (l1 ++ (x.p, Obj.cells (fxM { x with g := { x.g with s := { x.g.s with sp := x.g.s.sp + n } } }).toArray 130) :: L)) rfl rfl rfl Tryz.func118 Zk rfl (fun w1 hw1 => by simpa using g_spdA (l1 := (p7, Obj.cells [Value.func (.func 81) #[] #[], .func (.func 118) #[] #[]].toArray 165) :: l1) n hw1 hok (by omega)) fun _ _ => ?_
 refine Ze (Zt (Zs (Zr ?_)))
 refine Xa ?_
 refine Ze (Zt (w_ret ?_))
 refine ret1 rfl rfl (fun w' hm' => ⟨?_, (), trivial, ?_⟩)
 ·unfold spdP; rw [if_neg (by omega), if_neg (by omega)]
 unfold spdP; rw [if_neg (by omega), if_neg (by omega)]; exact hm'.less (List.sublist_cons_self _ _) (fun _ h => h)
theorem g_post_spdM {w : World} {own : List (Nat × Obj)} {ro : List Snap} {mF pF : Nat} {esF : Array MapEntry} {ckF : Nat} {money : Int} {Φ : Value → Option Value} {id : Int} (hm : Mem w own ro) (hF : MapF Tryz.prog 3 esF Φ) (hmF : (mF, Obj.map esF ckF) ∈ own) (hpF : (pF, Obj.cells (fnC mF money).toArray 125) ∈ own) (hlk : Φ (.int .i64 id) = none) (hid : in64 id) (n : Int) :
  Calls Tryz.prog 105 #[.pointer (some ⟨pF, 0, none⟩), .int .i64 id, .int .i64 n, .agg #[.func (.func 81) #[] #[], .func (.func 118) #[] #[]]] w fun e w' => e = .returned (.int .i64 32) ∧ Mem w' own ro := by
 refine enter_in hm (vs := [.pointer (some ⟨pF, 0, none⟩), .int .i64 id, .int .i64 n, .agg #[.func (.func 81) #[] #[], .func (.func 118) #[] #[]]]) Tryz.func105 rfl Tryz.ntmps105 rfl ?_
 refine Zs (Zr ?_)
 refine x_box rfl rfl rfl rfl ?_
 intro p7
 refine Xa ?_
 refine Ze (Zt (Zs (Zs (Zr ?_))))
 refine Xm ?_
 refine Xv (v := Value.bool false) rfl (v_pnil (o := some ⟨pF, 0, none⟩) u35 rfl rfl) ?_
 refine Ze (Zt ?_)
 refine w_cond rfl (fun hc11 => ?_) (fun hc11 => ?_)
 ·cases hc11
 skip
 refine w_skip (Zt (Zs (Zr ?_)))
 refine Xm ?_
 refine Xv rfl (v_nilCheck rfl) ?_
 refine Xv rfl (v_fieldAddr (off' := 0) u125 rfl sz123 (by decide) rfl rfl) ?_
 refine Xv rfl (v_load u123 rfl rfl (at_ownL (vs := fnC mF money) (.tail _ hpF) rfl)) ?_
 refine Xm ?_
 refine Xv (v := Value.pointer none) rfl (v_lookup u123 (Maps.int_keyed u3) zr126 rfl rfl (Maps.keyOf_int_mk u3 (wf_in hid)) (.tail _ hmF) hF (by rw [hlk]; rfl)) ?_
 refine Xa ?_
 refine Ze (Zt (Zs (w_block (Zs (Zr ?_)))))
 refine Xm ?_
 refine Xv (v := Value.bool true) rfl (v_pnil (o := none) u126 rfl rfl) ?_
 refine Xa ?_
 refine Ze (Zt ?_)
 refine w_cond rfl (fun hc18 => ?_) (fun hc18 => ?_)
 ·skip
  refine Zs (Zr ?_)
  refine Xa ?_
  refine Ze (Zt (w_ret (b_ret (t_ret ?_))))
  exact ret1 rfl rfl (fun w' hm' => ⟨rfl, hm'.less (List.sublist_cons_self _ _) (fun _ h => h)⟩)
 cases hc18
theorem g_spd1 {w : World} {l1 L : List (Nat × Obj)} {ro : List Snap} {mF pF : Nat} {esF : Array MapEntry} {ckF : Nat} {money : Int} {Φ : Value → Option Value} {x : FM} {id : Int} (hm : Mem w (l1 ++ (x.p, Obj.cells (fxM x).toArray 130) :: L) ro) (hF : MapF Tryz.prog 3 esF Φ) (hmF : (mF, Obj.map esF ckF) ∈ l1 ++ (x.p, Obj.cells (fxM x).toArray 130) :: L) (hpF : (pF, Obj.cells (fnC mF money).toArray 125) ∈ l1 ++ (x.p, Obj.cells (fxM x).toArray 130) :: L) (hlk : Φ (.int .i64 id) = some (.pointer (some ⟨x.p, 0, none⟩))) (hid : in64 id) (hok : fundOK x.g.s) (n : Int) :
  Calls Tryz.prog 63 #[.pointer (some ⟨pF, 0, none⟩), .int .i64 id, .int .i64 n] w fun e w' => e = .returned (.int .i64 (spdP x.g.s n).1) ∧ ∃ u : Unit, True ∧ Mem w' (l1 ++ (x.p, Obj.cells (fxM { x with g := { x.g with s := (spdP x.g.s n).2 } }).toArray 130) :: L) ro := by
 refine enter_in hm (vs := [.pointer (some ⟨pF, 0, none⟩), .int .i64 id, .int .i64 n]) Tryz.func63 rfl Tryz.ntmps63 rfl ?_
 refine Zs (Zr ?_)
 refine Xa ?_
 refine Ze (Zt (Zs (Zr ?_)))
 refine Xm ?_
 refine Xm ?_
 refine Xm ?_
 refine Xv rfl (v_buildL (places := [(0, 1), (1, 1)]) u165 zr165 Zk rfl rfl) ?_
 refine x_turnf (τ := Unit) (v := .int .i64 (spdP x.g.s n).1) (fun _ => True) (fun _ => l1 ++ (x.p, Obj.cells (fxM { x with g := { x.g with s := (spdP x.g.s n).2 } }).toArray 130) :: L) rfl rfl Tryz.func105 Zk rfl (fun w1 hw1 => g_post_spd hw1 hF hmF hpF hlk hid hok n) fun _ _ => ?_
 refine Xa ?_
 refine Ze (Zt (w_ret ?_))
 exact ret1 rfl rfl (fun w' hm' => ⟨rfl, (), trivial, hm'⟩)
theorem g_spdM {w : World} {own : List (Nat × Obj)} {ro : List Snap} {mF pF : Nat} {esF : Array MapEntry} {ckF : Nat} {money : Int} {Φ : Value → Option Value} {id : Int} (hm : Mem w own ro) (hF : MapF Tryz.prog 3 esF Φ) (hmF : (mF, Obj.map esF ckF) ∈ own) (hpF : (pF, Obj.cells (fnC mF money).toArray 125) ∈ own) (hlk : Φ (.int .i64 id) = none) (hid : in64 id) (n : Int) :
  Calls Tryz.prog 63 #[.pointer (some ⟨pF, 0, none⟩), .int .i64 id, .int .i64 n] w fun e w' => e = .returned (.int .i64 32) ∧ Mem w' own ro := by
 refine enter_in hm (vs := [.pointer (some ⟨pF, 0, none⟩), .int .i64 id, .int .i64 n]) Tryz.func63 rfl Tryz.ntmps63 rfl ?_
 refine Zs (Zr ?_)
 refine Xa ?_
 refine Ze (Zt (Zs (Zr ?_)))
 refine Xm ?_
 refine Xm ?_
 refine Xm ?_
 refine Xv rfl (v_buildL (places := [(0, 1), (1, 1)]) u165 zr165 Zk rfl rfl) ?_
 refine x_turnf (τ := Unit) (v := .int .i64 32) (fun _ => True) (fun _ => own) rfl rfl Tryz.func105 Zk rfl (fun w1 hw1 => (g_post_spdM hw1 hF hmF hpF hlk hid n).mono fun e w2 h => ⟨h.1, (), trivial, h.2⟩) fun _ _ => ?_
 refine Xa ?_
 refine Ze (Zt (w_ret ?_))
 exact ret1 rfl rfl (fun w' hm' => ⟨rfl, hm'⟩)
theorem g_spd {w : World} {l1 L : List (Nat × Obj)} {ro : List Snap} {mF pF : Nat} {esF : Array MapEntry} {ckF : Nat} {money : Int} {ms : List FM} (hm : Mem w (l1 ++ (FB 130 ms ++ L)) ro) (hF : MapF Tryz.prog 3 esF (fMM ms)) (hmF : (mF, Obj.map esF ckF) ∈ l1 ++ (FB 130 ms ++ L)) (hpF : (pF, Obj.cells (fnC mF money).toArray 125) ∈ l1 ++ (FB 130 ms ++ L)) (hok : ∀ f ∈ fsM ms, fundOK f.s) (id : Int) (hid : in64 id) (n : Int) :
  Calls Tryz.prog 63 #[.pointer (some ⟨pF, 0, none⟩), .int .i64 id, .int .i64 n] w fun e w' => e = .returned (.int .i64 (postG spdP (fsM ms) id n).1) ∧ ∃ q : List FM, (fsM q = (postG spdP (fsM ms) id n).2 ∧ fMM q = fMM ms) ∧ Mem w' (l1 ++ (FB 130 q ++ L)) ro := by
 unfold postG
 rw [lkM_F]
 cases hl : lkM ms id with
 | none =>
  exact (g_spdM hm hF hmF hpF (show (lkM ms id).map _ = none by rw [hl]; rfl) hid n).mono fun e w2 h => ⟨h.1, ms, ⟨rfl, rfl⟩, h.2⟩
 | some x =>
  obtain ⟨a, c, h1, h2, h3⟩ := lkM_split hl
  have e1 : l1 ++ (FB 130 ms ++ L) = (l1 ++ FB 130 a) ++ (x.p, Obj.cells (fxM x).toArray 130) :: (FB 130 c ++ L) := by rw [h1, FB_mid]; simp
  have hx : fundOK x.g.s := hok x.g (List.mem_map_of_mem (by rw [h1]; simp))
  have h := g_spd1 (hm.to e1) hF (by rw [← e1]; exact hmF) (by rw [← e1]; exact hpF) (show (lkM ms id).map _ = _ by rw [hl]; rfl) hid hx n
  refine h.mono fun e w2 ⟨k1, _, _, k2⟩ => ⟨k1, setM ms id (spdP x.g.s n).2, ⟨setM_F ms id _, fMM_set ms id _⟩, k2.to ?_⟩
  rw [h3, FB_mid]; simp
theorem g_Fund1 {w : World} {mF pF : Nat} {esF : Array MapEntry} {ckF : Nat} {Φ : Value → Option Value} {id : Int} (hF : MapF Tryz.prog 3 esF Φ) (h1 : w.cell? ⟨pF, 0, none⟩ = some (.map (some mF))) (h2 : w.heap[mF]? = some (.map esF ckF)) (hid : in64 id) {x : FM} (hlk : Φ (.int .i64 id) = some (.pointer (some ⟨x.p, 0, none⟩))) (hX : ∀ i v, (fxM x)[i]? = some v → w.cell? ⟨x.p, i, none⟩ = some v) :
  Calls Tryz.prog 30 #[.pointer (some ⟨pF, 0, none⟩), .int .i64 id] w fun e w' => e = .returned (.tuple #[.agg ((fxM x).take 5).toArray, .bool true]) ∧ Later w w' := by
 refine enter (vs := [.pointer (some ⟨pF, 0, none⟩), .int .i64 id]) Tryz.func30 rfl Tryz.ntmps30 rfl ?_
 refine Zs (Zr ?_)
 refine x_alloc rfl rfl rfl zr71 ?_
 intro p4
 refine Xa ?_
 refine Ze (Zt (Zs (Zs (Zr ?_))))
 refine Xm ?_
 refine Xb rfl (v_pnil (o := some ⟨pF, 0, none⟩) u35 rfl rfl) fun b7 hb7 => ?_
 refine Xm ?_
 refine Xg ?_
 refine Xi rfl rfl rfl (fun hg0 => by subst hg0; (try simp only [Qy]); exact v_nilCheck rfl) ?_
 refine Xi rfl rfl rfl (fun hg0 => by subst hg0; (try simp only [Qy]); exact v_fieldAddr (off' := 0) u125 rfl sz123 (by decide) rfl rfl) ?_
 refine Xi rfl rfl rfl (fun hg0 => by subst hg0; (try simp only [Qy]); exact v_load u123 rfl rfl (at_ro (.head _) trivial h1)) ?_
 refine Xg ?_
 refine x_if [] rfl rfl rfl rfl rfl (v := Value.pointer (some ⟨x.p, 0, none⟩)) (fun hg => by obtain ⟨hg0, _⟩ := hg; subst hg0; (try simp only [Qy]); exact v_lookupH u123 (Maps.int_keyed u3) zr126 rfl rfl (Maps.keyOf_int_mk u3 (wf_in hid)) (map_ro (.head _) trivial h2) hF (by rw [hlk]; rfl)) ?_
 refine x_ifb [] rfl rfl rfl rfl rfl (c := false) (fun hg => by obtain ⟨hg0, _⟩ := hg; subst hg0; (try simp only [Qy]); exact v_pnil (o := some ⟨x.p, 0, none⟩) u126 rfl rfl) fun b15 hb15 => ?_
 refine Xb rfl (v_or rfl rfl) fun b16 hb16 => ?_
 refine Ze (Zt ?_)
 refine w_cond rfl (fun hc16 => ?_) (fun hc16 => ?_)
 ·exfalso
  rw [hb16, hb15, hb7] at hc16
  revert hc16; simp
 simp only [hb16, Qz, ne_eq] at hc16
 refine w_skip (Zt (Zs (Zr ?_)))
 refine Xm ?_
 refine Xv rfl (v_nilCheck rfl) ?_
 refine Xv rfl (v_fieldAddr (off' := 0) u125 rfl sz123 (by decide) rfl rfl) ?_
 refine Xv rfl (v_load u123 rfl rfl (at_ro (.head _) trivial h1)) ?_
 refine Xm ?_
 refine Xv (v := Value.pointer (some ⟨x.p, 0, none⟩)) rfl (v_lookupH u123 (Maps.int_keyed u3) zr126 rfl rfl (Maps.keyOf_int_mk u3 (wf_in hid)) (map_ro (.head _) trivial h2) hF (by rw [hlk]; rfl)) ?_
 refine Xv rfl (v_nilCheck rfl) ?_
 refine Xv rfl (v_fieldAddr u130 rfl sz71 (by decide) rfl rfl) ?_
 refine Xv rfl (v_loadN (vs := (fxM x).take 5) u71 rfl sz71 rfl (fun i hi => at_ro (.head _) trivial (by match i, hi with | 0, _ => exact hX 0 _ rfl | 1, _ => exact hX 1 _ rfl | 2, _ => exact hX 2 _ rfl | 3, _ => exact hX 3 _ rfl | 4, _ => exact hX 4 _ rfl))) ?_
 refine x_store0 [] rfl rfl rfl rfl sz71 rfl rfl ?_
 refine Xa ?_
 refine Ze (Zt (w_ret ?_))
 refine retct (cs := ((fxM x).take 5).toArray) rfl rfl rfl (.head _) u71 rfl sz71 (fun w' hm => ⟨rfl, hm.base (by simp)⟩)
theorem g_Free1 {w : World} {mF pF : Nat} {esF : Array MapEntry} {ckF : Nat} {Φ : Value → Option Value} {id : Int} (hF : MapF Tryz.prog 3 esF Φ) (h1 : w.cell? ⟨pF, 0, none⟩ = some (.map (some mF))) (h2 : w.heap[mF]? = some (.map esF ckF)) (hid : in64 id) {x : FM} (hlk : Φ (.int .i64 id) = some (.pointer (some ⟨x.p, 0, none⟩))) (hX : ∀ i v, (fxM x)[i]? = some v → w.cell? ⟨x.p, i, none⟩ = some v) (hok : fundOK x.g.s) :
  Calls Tryz.prog 31 #[.pointer (some ⟨pF, 0, none⟩), .int .i64 id] w fun e w' => e = .returned (.int .i64 (x.g.s.free)) ∧ Later w w' := by
 refine enter (vs := [.pointer (some ⟨pF, 0, none⟩), .int .i64 id]) Tryz.func31 rfl Tryz.ntmps31 rfl ?_
 refine Zs (Zr ?_)
 refine Xa ?_
 refine Ze (Zt (Zs (Zs (Zr ?_))))
 refine Xm ?_
 refine Xb rfl (v_pnil (o := some ⟨pF, 0, none⟩) u35 rfl rfl) fun b6 hb6 => ?_
 refine Xm ?_
 refine Xg ?_
 refine Xi rfl rfl rfl (fun hg0 => by subst hg0; (try simp only [Qy]); exact v_nilCheck rfl) ?_
 refine Xi rfl rfl rfl (fun hg0 => by subst hg0; (try simp only [Qy]); exact v_fieldAddr (off' := 0) u125 rfl sz123 (by decide) rfl rfl) ?_
 refine Xi rfl rfl rfl (fun hg0 => by subst hg0; (try simp only [Qy]); exact v_load u123 rfl rfl (at_ro (.head _) trivial h1)) ?_
 refine Xg ?_
 refine x_if [] rfl rfl rfl rfl rfl (v := Value.pointer (some ⟨x.p, 0, none⟩)) (fun hg => by obtain ⟨hg0, _⟩ := hg; subst hg0; (try simp only [Qy]); exact v_lookupH u123 (Maps.int_keyed u3) zr126 rfl rfl (Maps.keyOf_int_mk u3 (wf_in hid)) (map_ro (.head _) trivial h2) hF (by rw [hlk]; rfl)) ?_
 refine x_ifb [] rfl rfl rfl rfl rfl (c := false) (fun hg => by obtain ⟨hg0, _⟩ := hg; subst hg0; (try simp only [Qy]); exact v_pnil (o := some ⟨x.p, 0, none⟩) u126 rfl rfl) fun b14 hb14 => ?_
 refine Xb rfl (v_or rfl rfl) fun b15 hb15 => ?_
 refine Ze (Zt ?_)
 refine w_cond rfl (fun hc15 => ?_) (fun hc15 => ?_)
 ·exfalso
  rw [hb15, hb14, hb6] at hc15
  revert hc15; simp
 simp only [hb15, Qz, ne_eq] at hc15
 refine w_skip (Zt (Zs (Zr ?_)))
 refine Xm ?_
 refine Xv rfl (v_nilCheck rfl) ?_
 refine Xv rfl (v_fieldAddr (off' := 0) u125 rfl sz123 (by decide) rfl rfl) ?_
 refine Xv rfl (v_load u123 rfl rfl (at_ro (.head _) trivial h1)) ?_
 refine Xm ?_
 refine Xv (v := Value.pointer (some ⟨x.p, 0, none⟩)) rfl (v_lookupH u123 (Maps.int_keyed u3) zr126 rfl rfl (Maps.keyOf_int_mk u3 (wf_in hid)) (map_ro (.head _) trivial h2) hF (by rw [hlk]; rfl)) ?_
 refine x_callv rfl rfl rfl Tryz.func81 Zk rfl (fun w1 hw1 => g_free (x := x) w1 (fun i v hv => at_ro (.head _) trivial (hX i v hv) w1 hw1) hok) ?_
 refine Xa ?_
 refine Ze (Zt (w_ret ?_))
 refine ret1 rfl rfl (fun w' hm => ⟨?_, hm.base (by simp)⟩)
 rfl
theorem g_FreeM {w : World} {mF pF : Nat} {esF : Array MapEntry} {ckF : Nat} {Φ : Value → Option Value} {id : Int} (hF : MapF Tryz.prog 3 esF Φ) (h1 : w.cell? ⟨pF, 0, none⟩ = some (.map (some mF))) (h2 : w.heap[mF]? = some (.map esF ckF)) (hid : in64 id) (hlk : Φ (.int .i64 id) = none) :
  Calls Tryz.prog 31 #[.pointer (some ⟨pF, 0, none⟩), .int .i64 id] w fun e w' => e = .returned (.int .i64 (0)) ∧ Later w w' := by
 refine enter (vs := [.pointer (some ⟨pF, 0, none⟩), .int .i64 id]) Tryz.func31 rfl Tryz.ntmps31 rfl ?_
 refine Zs (Zr ?_)
 refine Xa ?_
 refine Ze (Zt (Zs (Zs (Zr ?_))))
 refine Xm ?_
 refine Xb rfl (v_pnil (o := some ⟨pF, 0, none⟩) u35 rfl rfl) fun b6 hb6 => ?_
 refine Xm ?_
 refine Xg ?_
 refine Xi rfl rfl rfl (fun hg0 => by subst hg0; (try simp only [Qy]); exact v_nilCheck rfl) ?_
 refine Xi rfl rfl rfl (fun hg0 => by subst hg0; (try simp only [Qy]); exact v_fieldAddr (off' := 0) u125 rfl sz123 (by decide) rfl rfl) ?_
 refine Xi rfl rfl rfl (fun hg0 => by subst hg0; (try simp only [Qy]); exact v_load u123 rfl rfl (at_ro (.head _) trivial h1)) ?_
 refine Xg ?_
 refine x_if [] rfl rfl rfl rfl rfl (v := Value.pointer none) (fun hg => by obtain ⟨hg0, _⟩ := hg; subst hg0; (try simp only [Qy]); exact v_lookupH u123 (Maps.int_keyed u3) zr126 rfl rfl (Maps.keyOf_int_mk u3 (wf_in hid)) (map_ro (.head _) trivial h2) hF (by rw [hlk]; rfl)) ?_
 refine x_ifb [] rfl rfl rfl rfl rfl (c := true) (fun hg => by obtain ⟨hg0, _⟩ := hg; subst hg0; (try simp only [Qy]); exact v_pnil (o := none) u126 rfl rfl) fun b14 hb14 => ?_
 refine Xb rfl (v_or rfl rfl) fun b15 hb15 => ?_
 refine Ze (Zt ?_)
 refine w_cond rfl (fun hc15 => ?_) (fun hc15 => ?_)
 ·simp only [hb15, Qz, ne_eq] at hc15
  refine Zs (Zr ?_)
  refine Xa ?_
  refine Ze (Zt (w_ret (t_ret ?_)))
  refine ret1 rfl rfl (fun w' hm => ⟨?_, hm.base (by simp)⟩)
  rfl
 exfalso
 rw [hb15, hb14, hb6] at hc15
 revert hc15; simp
theorem g_Free {w : World} {own : List (Nat × Obj)} {ro : List Snap} {mF pF : Nat} {esF : Array MapEntry} {ckF : Nat} {money : Int} {ms : List FM} (hm : Mem w own ro) (hF : MapF Tryz.prog 3 esF (fMM ms)) (hmF : (mF, Obj.map esF ckF) ∈ own) (hpF : (pF, Obj.cells (fnC mF money).toArray 125) ∈ own) (hsub : ∀ p ∈ FB 130 ms, p ∈ own) (hok : ∀ f ∈ fsM ms, fundOK f.s) (id : Int) (hid : in64 id) :
  Calls Tryz.prog 31 #[.pointer (some ⟨pF, 0, none⟩), .int .i64 id] w fun e w' => e = .returned (.int .i64 (freeG (fsM ms) id)) ∧ Later w w' := by
 have h1 : w.cell? ⟨pF, 0, none⟩ = some (.map (some mF)) := at_ownL (vs := fnC mF money) hpF rfl w hm
 have h2 : w.heap[mF]? = some (.map esF ckF) := hm.own_at _ hmF
 unfold freeG
 rw [lkM_F]
 cases hl : lkM ms id with
 | none => exact g_FreeM hF h1 h2 hid (show (lkM ms id).map _ = none by rw [hl]; rfl)
 | some x =>
  obtain ⟨a, c, k1, k2, k3⟩ := lkM_split hl
  have hx : x ∈ ms := by rw [k1]; simp
  exact g_Free1 hF h1 h2 hid (show (lkM ms id).map _ = _ by rw [hl]; rfl) (fun i v hv => at_ownL (vs := fxM x) (hsub _ (List.mem_map_of_mem hx)) hv w hm) (hok x.g (List.mem_map_of_mem hx))
open Go.RowKit Go.PK
theorem g_put {w : World} {l1 L : List (Nat × Obj)} {ro : List Snap} {pO mO pF ck : Nat} {es : Array MapEntry} {tol : Int} {Φ : Value → Option Value} (y : PK.Ord) (first : Int) (hm : Mem w (l1 ++ (pO, Obj.cells (orC pF tol mO).toArray 38) :: (mO, Obj.map es ck) :: L) ro) (hO : MapC Tryz.prog 3 es ck (Φ)) (hy : in64 y.id) :
  Calls Tryz.prog 53 #[.pointer (some ⟨pO, 0, none⟩), .agg (orC10 y first).toArray] w fun e w' => e = .returned (.tuple #[]) ∧ ∃ q : Array MapEntry × Nat, MapC Tryz.prog 3 q.1 q.2 (fupd Φ (.int .i64 y.id) (orV y first)) ∧ Mem w' (l1 ++ (pO, Obj.cells (orC pF tol mO).toArray 38) :: (mO, Obj.map q.1 q.2) :: L) ro := by
 refine enter_in hm (vs := [.pointer (some ⟨pO, 0, none⟩), .agg (orC10 y first).toArray]) Tryz.func53 rfl Tryz.ntmps53 rfl ?_
 refine Zs (Zr ?_)
 refine x_box rfl rfl rfl rfl ?_
 intro p3
 refine Ze (Zt (Zs (Zs (Zr ?_))))
 refine Xm ?_
 refine Xv rfl (v_nilCheck rfl) ?_
 refine Xv rfl (v_fieldAddr (off' := 2) u38 rfl sz36 (by decide) rfl rfl) ?_
 refine Xv rfl (v_load u36 rfl rfl (at_ownL (vs := orC pF tol mO) (.tail _ (List.mem_append_right _ (.head _))) rfl)) ?_
 refine Xv (v := Value.bool false) rfl (v_eqm (p := some mO) u36 rfl rfl) ?_
 refine Ze (Zt ?_)
 refine w_cond rfl (fun hc8 => ?_) (fun hc8 => ?_)
 ·cases hc8
 skip
 refine w_skip (Zt ?_)
 refine rg_draw 8 [(true, 0), (true, 1), (true, 2), (true, 3), (true, 4), (true, 5), (true, 6), (true, 7)] Zk Zk ?_
 refine Xm ?_
 refine Xv rfl (v_nilCheck rfl) ?_
 refine Xv rfl (v_fieldAddr (off' := 2) u38 rfl sz36 (by decide) rfl rfl) ?_
 refine Xv rfl (v_load u36 rfl rfl (at_ownL (vs := orC pF tol mO) (.tail _ (List.mem_append_right _ (.head _))) rfl)) ?_
 refine Xv rfl (v_fieldAddr (off' := 0) u100 rfl sz25 (by decide) rfl rfl) ?_
 refine Xv rfl (v_fieldAddr (off' := 0) u25 rfl sz3 (by decide) rfl rfl) ?_
 refine Xv rfl (v_load u3 rfl rfl (at_ownL (vs := (orC10 y first)) (.head _) rfl)) ?_
 refine Xv rfl (v_load_blk (e := 100) (fz := (0, 0)) (cs := (orC10 y first).toArray) u100 rfl rfl (.head _) sz100) ?_
 refine x_mapUpdateC ((p3, Obj.cells (orC10 y first).toArray 100) :: (l1 ++ [(pO, Obj.cells (orC pF tol mO).toArray 38)])) (l2 := L) (es := es) (clock := ck) rfl rfl rfl rfl u36 (Maps.int_keyed u3) (Maps.keyOf_int_mk u3 (wf_in hy)) (by simp [List.append_assoc] <;> rfl) hO ?_
 intro es16 clock16 hmf16
 refine Ze ?_
 refine ret0 rfl (fun w' hm' => ⟨rfl, (es16, clock16), hmf16, ?_⟩)
 exact (hm'.less (List.sublist_cons_self _ _) (fun _ h => h)).to (by simp)
theorem g_res (x : PK.Ord) (first : Int) (w : World) (hx : ordN x) :
  Calls Tryz.prog 57 #[.agg (orC10 x first).toArray] w fun e w' => e = .returned (.int .i64 (resP x)) ∧ Later w w' := by
 obtain ⟨⟨o1, o2⟩, ⟨o3, o4⟩, ⟨o5, o6⟩, ⟨o7, o8⟩, ⟨o9, o10⟩, ⟨o11, o12⟩, ⟨o13, o14⟩, ⟨o15, o16⟩, o17, o18⟩ := show ordN x from hx
 have hmul : -99980001000000 ≤ (x.prom - x.paid) * x.price ∧ (x.prom - x.paid) * x.price ≤ 99980001000000 := resN hx
 refine enter (vs := [.agg (orC10 x first).toArray]) Tryz.func57 rfl Tryz.ntmps57 rfl ?_
 refine Zs (Zr ?_)
 refine x_box rfl rfl rfl rfl ?_
 intro p1
 refine Xa ?_
 refine Ze (Zt (Zs (Zr ?_)))
 refine Xv rfl (v_fieldAddr (off' := 0) u100 rfl sz25 (by decide) rfl rfl) ?_
 refine Xv rfl (v_fieldAddr (off' := 6) u25 rfl sz3 (by decide) rfl rfl) ?_
 refine Xv rfl (v_load u3 rfl rfl (at_ownL (vs := (orC10 x first)) (.head _) rfl)) ?_
 refine Xv rfl (v_fieldAddr (off' := 0) u100 rfl sz25 (by decide) rfl rfl) ?_
 refine Xv rfl (v_fieldAddr (off' := 7) u25 rfl sz3 (by decide) rfl rfl) ?_
 refine Xv rfl (v_load u3 rfl rfl (at_ownL (vs := (orC10 x first)) (.head _) rfl)) ?_
 refine Xv rfl (v_subi rfl rfl rfl Zo) ?_
 refine Xv rfl (v_fieldAddr (off' := 0) u100 rfl sz25 (by decide) rfl rfl) ?_
 refine Xv rfl (v_fieldAddr (off' := 5) u25 rfl sz3 (by decide) rfl rfl) ?_
 refine Xv rfl (v_load u3 rfl rfl (at_ownL (vs := (orC10 x first)) (.head _) rfl)) ?_
 refine Xv rfl (v_muli rfl rfl rfl Zo) ?_
 refine Xa ?_
 refine Ze (Zt (w_ret ?_))
 refine ret1 rfl rfl (fun w' hm => ⟨?_, hm.base (by simp)⟩)
 rfl
theorem g_check {pO : Nat} {tol : Int} (ln x : PK.Ord) (first : Int) (w : World) (h1 : w.cell? ⟨pO, 1, none⟩ = some (.int .i64 tol)) (ht : 0 ≤ tol ∧ tol ≤ 1000000) (hl : 0 ≤ ln.price ∧ ln.price ≤ 999999999) (hx : ordN x) :
  Calls Tryz.prog 62 #[.pointer (some ⟨pO, 0, none⟩), .agg ln.cells.toArray, .agg (orC10 x first).toArray, .bool true] w fun e w' => e = .returned (.int .i64 (checkP tol ln (some (x, first)))) ∧ Later w w' := by
 obtain ⟨⟨o1, o2⟩, ⟨o3, o4⟩, ⟨o5, o6⟩, ⟨o7, o8⟩, ⟨o9, o10⟩, ⟨o11, o12⟩, ⟨o13, o14⟩, ⟨o15, o16⟩, o17, o18⟩ := show ordN x from hx
 obtain ⟨hl1, hl2⟩ := hl
 refine enter (vs := [.pointer (some ⟨pO, 0, none⟩), .agg ln.cells.toArray, .agg (orC10 x first).toArray, .bool true]) Tryz.func62 rfl Tryz.ntmps62 rfl ?_
 refine Zs (Zr ?_)
 refine x_box rfl rfl rfl rfl ?_
 intro p5
 refine x_box rfl rfl rfl rfl ?_
 intro p6
 refine Xa ?_
 refine Ze (Zt (Zs (w_block (Zs (Zr ?_)))))
 refine Xm ?_
 refine Xb rfl (v_not rfl) fun b11 hb11 => ?_
 refine Xa ?_
 refine Ze (Zt ?_)
 refine w_cond rfl (fun hc9 => ?_) (fun hc9 => ?_)
 ·exfalso
  rw [hb11] at hc9
  revert hc9; simp
 simp only [hb11, Qz, ne_eq] at hc9
 refine Zs (Zr ?_)
 refine Xv rfl (v_fieldAddr (off' := 0) u100 rfl sz25 (by decide) rfl rfl) ?_
 refine Xv rfl (v_fieldAddr (off' := 8) u25 rfl sz3 (by decide) rfl rfl) ?_
 refine Xv rfl (v_load u3 rfl rfl (at_ownL (vs := orC10 x first) (.head _) rfl)) ?_
 refine Xb rfl (v_eql rfl rfl) fun b16 hb16 => ?_
 refine Xa ?_
 refine Ze (Zt ?_)
 refine w_cond rfl (fun hc12 => ?_) (fun hc12 => ?_)
 ·simp only [hb16, Qz, ne_eq] at hc12
  refine Zs (Zr ?_)
  refine Xa ?_
  refine Ze (Zt (w_ret (b_ret (t_ret ?_))))
  refine ret1 rfl rfl (fun w' hm => ⟨?_, hm.base (by simp)⟩)
  unfold checkP; dsimp only; rw [if_pos (by simpa using hc12)]
 simp only [hb16, Qz, ne_eq] at hc12
 refine Zs (Zr ?_)
 refine Xv rfl (v_fieldAddr (off' := 0) u100 rfl sz25 (by decide) rfl rfl) ?_
 refine Xv rfl (v_fieldAddr (off' := 2) u25 rfl sz23 (by decide) rfl rfl) ?_
 refine Xv rfl (v_loadN (vs := [Value.int .i64 x.src, .int .i64 x.num]) u23 rfl sz23 rfl (fun j hj => at_ownL (vs := orC10 x first) (.head _) (by match j, hj with | 0, _ => rfl | 1, _ => rfl))) ?_
 refine Xv rfl (v_fieldAddr (off' := 2) u25 rfl sz23 (by decide) rfl rfl) ?_
 refine Xv rfl (v_loadN (vs := [Value.int .i64 ln.src, .int .i64 ln.num]) u23 rfl sz23 rfl (fun j hj => at_ownL (vs := ln.cells) (.tail _ (.head _)) (by match j, hj with | 0, _ => rfl | 1, _ => rfl))) ?_
 refine Xb rfl (v_neA Zk rfl rfl (fun w1 => eqRec w1 x.src x.num ln.src ln.num)) fun b23 hb23 => ?_
 refine Xa ?_
 refine Ze (Zt ?_)
 refine w_cond rfl (fun hc17 => ?_) (fun hc17 => ?_)
 ·simp only [hb23, Qz, ne_eq] at hc17
  refine Zs (Zr ?_)
  refine Xa ?_
  refine Ze (Zt (w_ret (b_ret (t_ret ?_))))
  refine ret1 rfl rfl (fun w' hm => ⟨?_, hm.base (by simp)⟩)
  unfold checkP; dsimp only; rw [if_neg (by simpa using hc12), if_pos (by simpa using hc17)]
 simp only [hb23, Qz, ne_eq] at hc17
 refine Zs (Zr ?_)
 refine Xv rfl (v_fieldAddr (off' := 4) u25 rfl sz3 (by decide) rfl rfl) ?_
 refine Xv rfl (v_load u3 rfl rfl (at_ownL (vs := ln.cells) (.tail _ (.head _)) rfl)) ?_
 refine Xv rfl (v_fieldAddr (off' := 0) u100 rfl sz25 (by decide) rfl rfl) ?_
 refine Xv rfl (v_fieldAddr (off' := 8) u25 rfl sz3 (by decide) rfl rfl) ?_
 refine Xv rfl (v_load u3 rfl rfl (at_ownL (vs := orC10 x first) (.head _) rfl)) ?_
 refine Xv rfl (v_fieldAddr (off' := 0) u100 rfl sz25 (by decide) rfl rfl) ?_
 refine Xv rfl (v_fieldAddr (off' := 7) u25 rfl sz3 (by decide) rfl rfl) ?_
 refine Xv rfl (v_load u3 rfl rfl (at_ownL (vs := orC10 x first) (.head _) rfl)) ?_
 refine Xv rfl (v_subi rfl rfl rfl Zo) ?_
 refine Xb rfl (v_gtr rfl rfl) fun b34 hb34 => ?_
 refine Xa ?_
 refine Ze (Zt ?_)
 refine w_cond rfl (fun hc24 => ?_) (fun hc24 => ?_)
 ·simp only [hb34, Qz, ne_eq] at hc24
  refine Zs (Zr ?_)
  refine Xa ?_
  refine Ze (Zt (w_ret (b_ret (t_ret ?_))))
  refine ret1 rfl rfl (fun w' hm => ⟨?_, hm.base (by simp)⟩)
  unfold checkP; dsimp only; rw [if_neg (by simpa using hc12), if_neg (by simpa using hc17), if_pos (by simpa using hc24)]
 simp only [hb34, Qz, ne_eq] at hc24
 refine Zs (Zr ?_)
 refine Xm ?_
 refine Xv rfl (v_fieldAddr (off' := 5) u25 rfl sz3 (by decide) rfl rfl) ?_
 refine Xv rfl (v_load u3 rfl rfl (at_ownL (vs := ln.cells) (.tail _ (.head _)) rfl)) ?_
 refine Xv rfl (v_fieldAddr (off' := 0) u100 rfl sz25 (by decide) rfl rfl) ?_
 refine Xv rfl (v_fieldAddr (off' := 5) u25 rfl sz3 (by decide) rfl rfl) ?_
 refine Xv rfl (v_load u3 rfl rfl (at_ownL (vs := orC10 x first) (.head _) rfl)) ?_
 refine x_callb rfl rfl rfl Tryz.func56 Zk rfl (fun w1 hw1 => c_near (tol := tol) ln.price x.price w1 (at_ro (.head _) trivial h1 w1 hw1) ht ⟨hl1, hl2⟩ ⟨o1, o2⟩) fun b42 hb42 => ?_
 refine Xb rfl (v_not rfl) fun b43 hb43 => ?_
 refine Xa ?_
 refine Ze (Zt ?_)
 refine w_cond rfl (fun hc35 => ?_) (fun hc35 => ?_)
 ·simp only [hb43, hb42, Qz, ne_eq] at hc35
  refine Zs (Zr ?_)
  refine Xa ?_
  refine Ze (Zt (w_ret (b_ret (t_ret ?_))))
  refine ret1 rfl rfl (fun w' hm => ⟨?_, hm.base (by simp)⟩)
  unfold checkP; dsimp only; rw [if_neg (by simpa using hc12), if_neg (by simpa using hc17), if_neg (by simpa using hc24), if_pos (by simpa using hc35)]
 simp only [hb43, hb42, Qz, ne_eq] at hc35
 refine w_skip (b_norm (Zt (Zs (Zr ?_))))
 refine Xa ?_
 refine Ze (Zt (w_ret ?_))
 refine ret1 rfl rfl (fun w' hm => ⟨?_, hm.base (by simp)⟩)
 unfold checkP; dsimp only; rw [if_neg (by simpa using hc12), if_neg (by simpa using hc17), if_neg (by simpa using hc24), if_neg (by simpa using hc35)]
theorem g_checkM {pO : Nat} {tol : Int} (ln x : PK.Ord) (first : Int) (w : World) :
  Calls Tryz.prog 62 #[.pointer (some ⟨pO, 0, none⟩), .agg ln.cells.toArray, .agg (orC10 x first).toArray, .bool false] w fun e w' => e = .returned (.int .i64 (32)) ∧ Later w w' := by
 refine enter (vs := [.pointer (some ⟨pO, 0, none⟩), .agg ln.cells.toArray, .agg (orC10 x first).toArray, .bool false]) Tryz.func62 rfl Tryz.ntmps62 rfl ?_
 refine Zs (Zr ?_)
 refine x_box rfl rfl rfl rfl ?_
 intro p5
 refine x_box rfl rfl rfl rfl ?_
 intro p6
 refine Xa ?_
 refine Ze (Zt (Zs (w_block (Zs (Zr ?_)))))
 refine Xm ?_
 refine Xb rfl (v_not rfl) fun b11 hb11 => ?_
 refine Xa ?_
 refine Ze (Zt ?_)
 refine w_cond rfl (fun hc9 => ?_) (fun hc9 => ?_)
 ·simp only [hb11, Qz, ne_eq] at hc9
  refine Zs (Zr ?_)
  refine Xa ?_
  refine Ze (Zt (w_ret (b_ret (t_ret ?_))))
  refine ret1 rfl rfl (fun w' hm => ⟨?_, hm.base (by simp)⟩)
  rfl
 exfalso
 rw [hb11] at hc9
 revert hc9; simp
theorem g_Receive1 {w : World} {L : List (Nat × Obj)} {ro : List Snap} {mF pF pO mO ckF ckO : Nat} {esF esO : Array MapEntry} {money : Int} {ms : List FM} {s : SG} (hm : Mem w ((pO, Obj.cells (orC pF s.tol mO).toArray 38) :: (mO, Obj.map esO ckO) :: (mF, Obj.map esF ckF) :: (pF, Obj.cells (fnC mF money).toArray 125) :: (FB 130 ms ++ L)) ro) (hF : MapF Tryz.prog 3 esF (fMM ms)) (hO : MapC Tryz.prog 3 esO ckO (fOL s.L)) (hfs : fsM ms = s.fs) (hok : SGok s) {id : Int} (hid : in64 id) {x : PK.Ord} {first : Int} (hl : lkL s.L id = some (x, first)) (n : Int) (hn : in64 n) :
  Calls Tryz.prog 14 #[.pointer (some ⟨pO, 0, none⟩), .int .i64 id, .int .i64 n] w fun e w' => e = .returned (.int .i64 (receiveG s id n).1) ∧ ∃ q : Array MapEntry × Nat × List FM, (MapC Tryz.prog 3 q.1 q.2.1 (fOL (receiveG s id n).2.L) ∧ fsM q.2.2 = (receiveG s id n).2.fs ∧ fMM q.2.2 = fMM ms ∧ (receiveG s id n).2.tol = s.tol) ∧ Mem w' ((pO, Obj.cells (orC pF s.tol mO).toArray 38) :: (mO, Obj.map q.1 q.2.1) :: (mF, Obj.map esF ckF) :: (pF, Obj.cells (fnC mF money).toArray 125) :: (FB 130 q.2.2 ++ L)) ro := by
 obtain ⟨hx, hfi1, hfi2⟩ := hok.at hl
 have hxid : x.id = id := (lkL_mem hl).2
 have hhere : (lkL s.L x.id).isSome = true := by rw [hxid, hl]; rfl
 have htol := hok.tol
 have hfk : ∀ f ∈ fsM ms, fundOK f.s := by rw [hfs]; exact hok.fs
 obtain ⟨⟨o1, o2⟩, ⟨o3, o4⟩, ⟨o5, o6⟩, ⟨o7, o8⟩, ⟨o9, o10⟩, ⟨o11, o12⟩, ⟨o13, o14⟩, ⟨o15, o16⟩, o17, o18⟩ := show ordN x from hx
 refine enter_in hm (vs := [.pointer (some ⟨pO, 0, none⟩), .int .i64 id, .int .i64 n]) Tryz.func14 rfl Tryz.ntmps14 rfl ?_
 refine Zs (Zr ?_)
 refine Xa ?_
 refine Ze (Zt (Zs (Zs (Zr ?_))))
 refine Xm ?_
 refine Xv (v := Value.bool false) rfl (v_pnil (o := some ⟨pO, 0, none⟩) u27 rfl rfl) ?_
 refine Ze (Zt ?_)
 refine w_cond rfl (fun hc10 => ?_) (fun hc10 => ?_)
 ·cases hc10
 skip
 refine w_skip (Zt (Zs (Zr ?_)))
 refine Xm ?_
 refine Xv rfl (v_nilCheck rfl) ?_
 refine Xv rfl (v_fieldAddr (off' := 2) u38 rfl sz36 (by decide) rfl rfl) ?_
 refine Xv rfl (v_load u36 rfl rfl (at_ownL (vs := orC pF s.tol mO) (.head _) rfl)) ?_
 refine Xm ?_
 refine Xv (v := Value.tuple #[orV x first, .bool true]) rfl (v_lookup2H u36 (Maps.int_keyed u3) zr100 rfl rfl (Maps.keyOf_int_mk u3 (wf_in hid)) (map_own (.tail _ (.head _))) hO.f (by rw [fOL_at, hl]; rfl) (by rw [fOL_at, hl]; rfl)) ?_
 refine Xm ?_
 refine Xv rfl (v_extract rfl rfl) ?_
 refine Xb rfl (v_extract rfl rfl) fun b19 hb19 => ?_
 refine x_alloc rfl rfl rfl zr100 ?_
 intro p7
 refine x_store0 [] rfl rfl rfl rfl sz100 rfl rfl ?_
 refine Xa ?_
 refine Ze (Zt (Zs (w_block (Zs (Zr ?_)))))
 refine Xm ?_
 refine Xb rfl (v_not rfl) fun b22 hb22 => ?_
 refine Xa ?_
 refine Ze (Zt ?_)
 refine w_cond rfl (fun hc20 => ?_) (fun hc20 => ?_)
 ·exfalso
  rw [hb22, hb19] at hc20
  revert hc20; simp
 simp only [hb22, hb19, Qz, ne_eq] at hc20
 refine Zs (Zr ?_)
 refine Xv rfl (v_fieldAddr (off' := 0) u100 rfl sz25 (by decide) rfl rfl) ?_
 refine Xv rfl (v_fieldAddr (off' := 8) u25 rfl sz3 (by decide) rfl rfl) ?_
 refine Xv rfl (v_load u3 rfl rfl (at_ownL (vs := orC10 x first) (.head _) rfl)) ?_
 refine Xb rfl (v_eql rfl rfl) fun b27 hb27 => ?_
 refine Xa ?_
 refine Ze (Zt ?_)
 refine w_cond rfl (fun hc23 => ?_) (fun hc23 => ?_)
 ·simp only [hb27, Qz, ne_eq] at hc23
  refine Zs (Zr ?_)
  refine Xa ?_
  refine Ze (Zt (w_ret (b_ret (t_ret ?_))))
  refine ret1 rfl rfl (fun w' hm' => ?_)
  rw [show (receiveG s id n) = (50, s) from by unfold receiveG; rw [hl]; dsimp only; rw [if_pos (by simpa using hc23)]]
  exact ⟨rfl, (esO, ckO, ms), ⟨hO, hfs, rfl, rfl⟩, hm'.less (List.sublist_cons_self _ _) (fun _ h => h)⟩
 simp only [hb27, Qz, ne_eq] at hc23
 refine Zs (Zr ?_)
 refine Xm ?_
 refine Xb rfl (v_lss rfl rfl) fun b30 hb30 => ?_
 refine Xm ?_
 refine Xg ?_
 refine Xi rfl rfl rfl (fun hg0 => by subst hg0; (try simp only [Qy]); exact v_fieldAddr (off' := 0) u100 rfl sz25 (by decide) rfl rfl) ?_
 refine Xi rfl rfl rfl (fun hg0 => by subst hg0; (try simp only [Qy]); exact v_fieldAddr (off' := 6) u25 rfl sz3 (by decide) rfl rfl) ?_
 refine Xi rfl rfl rfl (fun hg0 => by subst hg0; (try simp only [Qy]); exact v_load u3 rfl rfl (at_ownL (vs := orC10 x first) (.head _) rfl)) ?_
 refine Xi rfl rfl rfl (fun hg0 => by subst hg0; (try simp only [Qy]); exact v_fieldAddr (off' := 0) u100 rfl sz25 (by decide) rfl rfl) ?_
 refine Xi rfl rfl rfl (fun hg0 => by subst hg0; (try simp only [Qy]); exact v_fieldAddr (off' := 8) u25 rfl sz3 (by decide) rfl rfl) ?_
 refine Xi rfl rfl rfl (fun hg0 => by subst hg0; (try simp only [Qy]); exact v_load u3 rfl rfl (at_ownL (vs := orC10 x first) (.head _) rfl)) ?_
 refine Xi rfl rfl rfl (fun hg0 => by subst hg0; (try simp only [Qy]); exact v_subi rfl rfl rfl Zo) ?_
 refine Xj rfl rfl rfl (fun hg0 => by subst hg0; (try simp only [Qy]); exact v_gtr rfl rfl) fun b40 hb40 => ?_
 refine Xb rfl (v_or rfl rfl) fun b41 hb41 => ?_
 refine Xa ?_
 refine Ze (Zt ?_)
 refine w_cond rfl (fun hc28 => ?_) (fun hc28 => ?_)
 ·simp only [hb41, hb40, hb30, Qz, ne_eq] at hc28
  refine Zs (Zr ?_)
  refine Xa ?_
  refine Ze (Zt (w_ret (b_ret (t_ret ?_))))
  refine ret1 rfl rfl (fun w' hm' => ?_)
  rw [show (receiveG s id n) = (1, s) from by unfold receiveG; rw [hl]; dsimp only; rw [if_neg (by simpa using hc23), if_pos (by omega)]]
  exact ⟨rfl, (esO, ckO, ms), ⟨hO, hfs, rfl, rfl⟩, hm'.less (List.sublist_cons_self _ _) (fun _ h => h)⟩
 simp only [hb41, hb40, hb30, Qz, ne_eq] at hc28
 refine w_skip (b_norm (Zt (Zs (Zr ?_))))
 refine Xv rfl (v_fieldAddr (off' := 0) u100 rfl sz25 (by decide) rfl rfl) ?_
 refine Xv rfl (v_fieldAddr (off' := 8) u25 rfl sz3 (by decide) rfl rfl) ?_
 refine Xv rfl (v_load u3 rfl rfl (at_ownL (vs := orC10 x first) (.head _) rfl)) ?_
 refine Xm ?_
 refine Xv rfl (v_addi rfl rfl rfl Zo) ?_
 refine Xv rfl (v_fieldAddr (off' := 0) u100 rfl sz25 (by decide) rfl rfl) ?_
 refine Xv rfl (v_fieldAddr (off' := 8) u25 rfl sz3 (by decide) rfl rfl) ?_
 refine x_store (cs := orC10 x first) (off := 8) (e := 100) (l2 := (pO, Obj.cells (orC pF s.tol mO).toArray 38) :: (mO, Obj.map esO ckO) :: (mF, Obj.map esF ckF) :: (pF, Obj.cells (fnC mF money).toArray 125) :: (FB 130 ms ++ L)) [] rfl rfl rfl rfl sz3 rfl (by show 9 ≤ 10; decide) ?_
 refine Ze (Zt (Zs (Zr ?_)))
 refine Xm ?_
 refine Xv rfl (v_load_blk (e := 100) (fz := (0, 0)) (cs := (orC10 { x with st := x.st + n } first).toArray) u100 rfl rfl (.head _) sz100) ?_
 refine x_turnf (τ := Array MapEntry × Nat) (v := Value.tuple #[]) (fun q => MapC Tryz.prog 3 q.1 q.2 (fOL (setL s.L ({ x with st := x.st + n }, first)))) (fun q => [(p7, Obj.cells (orC10 { x with st := x.st + n } first).toArray 100)] ++ (pO, Obj.cells (orC pF s.tol mO).toArray 38) :: (mO, Obj.map q.1 q.2) :: (mF, Obj.map esF ckF) :: (pF, Obj.cells (fnC mF money).toArray 125) :: (FB 130 ms ++ L)) rfl rfl Tryz.func53 Zk rfl (fun w1 hw1 => (g_put (l1 := [(p7, Obj.cells (orC10 { x with st := x.st + n } first).toArray 100)]) { x with st := x.st + n } first hw1 hO (by unfold in64; dsimp only; omega)).mono fun e w2 ⟨h1, q, h2, h3⟩ => ⟨h1, q, by rw [← (fOL_set (y := ({ x with st := x.st + n }, first)) hhere)]; exact h2, h3⟩) fun q51 hq51 => ?_
 refine Ze (Zt (Zs (Zr ?_)))
 refine Xa ?_
 refine Ze (Zt (w_ret ?_))
 refine ret1 rfl rfl (fun w' hm' => ?_)
 rw [show (receiveG s id n) = (0, { s with L := setL s.L ({ x with st := x.st + n }, first) }) from by unfold receiveG; rw [hl]; dsimp only; rw [if_neg (by simpa using hc23), if_neg (by omega)]]
 exact ⟨rfl, (q51.1, q51.2, ms), ⟨hq51, hfs, rfl, rfl⟩, hm'.less (List.sublist_cons_self _ _) (fun _ h => h)⟩
theorem g_Receive0 {w : World} {L : List (Nat × Obj)} {ro : List Snap} {mF pF pO mO ckF ckO : Nat} {esF esO : Array MapEntry} {money : Int} {ms : List FM} {s : SG} (hm : Mem w ((pO, Obj.cells (orC pF s.tol mO).toArray 38) :: (mO, Obj.map esO ckO) :: (mF, Obj.map esF ckF) :: (pF, Obj.cells (fnC mF money).toArray 125) :: (FB 130 ms ++ L)) ro) (hF : MapF Tryz.prog 3 esF (fMM ms)) (hO : MapC Tryz.prog 3 esO ckO (fOL s.L)) (hfs : fsM ms = s.fs) (hok : SGok s) {id : Int} (hid : in64 id) (hl : lkL s.L id = none) (n : Int) (hn : in64 n) :
  Calls Tryz.prog 14 #[.pointer (some ⟨pO, 0, none⟩), .int .i64 id, .int .i64 n] w fun e w' => e = .returned (.int .i64 (receiveG s id n).1) ∧ ∃ q : Array MapEntry × Nat × List FM, (MapC Tryz.prog 3 q.1 q.2.1 (fOL (receiveG s id n).2.L) ∧ fsM q.2.2 = (receiveG s id n).2.fs ∧ fMM q.2.2 = fMM ms ∧ (receiveG s id n).2.tol = s.tol) ∧ Mem w' ((pO, Obj.cells (orC pF s.tol mO).toArray 38) :: (mO, Obj.map q.1 q.2.1) :: (mF, Obj.map esF ckF) :: (pF, Obj.cells (fnC mF money).toArray 125) :: (FB 130 q.2.2 ++ L)) ro := by
 refine enter_in hm (vs := [.pointer (some ⟨pO, 0, none⟩), .int .i64 id, .int .i64 n]) Tryz.func14 rfl Tryz.ntmps14 rfl ?_
 refine Zs (Zr ?_)
 refine Xa ?_
 refine Ze (Zt (Zs (Zs (Zr ?_))))
 refine Xm ?_
 refine Xv (v := Value.bool false) rfl (v_pnil (o := some ⟨pO, 0, none⟩) u27 rfl rfl) ?_
 refine Ze (Zt ?_)
 refine w_cond rfl (fun hc10 => ?_) (fun hc10 => ?_)
 ·cases hc10
 skip
 refine w_skip (Zt (Zs (Zr ?_)))
 refine Xm ?_
 refine Xv rfl (v_nilCheck rfl) ?_
 refine Xv rfl (v_fieldAddr (off' := 2) u38 rfl sz36 (by decide) rfl rfl) ?_
 refine Xv rfl (v_load u36 rfl rfl (at_ownL (vs := orC pF s.tol mO) (.head _) rfl)) ?_
 refine Xm ?_
 refine Xv (v := Value.tuple #[.agg (orC10 zeroO 0).toArray, .bool false]) rfl (v_lookup2H u36 (Maps.int_keyed u3) zr100 rfl rfl (Maps.keyOf_int_mk u3 (wf_in hid)) (map_own (.tail _ (.head _))) hO.f (by rw [fOL_at, hl]; rfl) (by rw [fOL_at, hl]; rfl)) ?_
 refine Xm ?_
 refine Xv rfl (v_extract rfl rfl) ?_
 refine Xb rfl (v_extract rfl rfl) fun b19 hb19 => ?_
 refine x_alloc rfl rfl rfl zr100 ?_
 intro p7
 refine x_store0 [] rfl rfl rfl rfl sz100 rfl rfl ?_
 refine Xa ?_
 refine Ze (Zt (Zs (w_block (Zs (Zr ?_)))))
 refine Xm ?_
 refine Xb rfl (v_not rfl) fun b22 hb22 => ?_
 refine Xa ?_
 refine Ze (Zt ?_)
 refine w_cond rfl (fun hc20 => ?_) (fun hc20 => ?_)
 ·simp only [hb22, hb19, Qz, ne_eq] at hc20
  refine Zs (Zr ?_)
  refine Xa ?_
  refine Ze (Zt (w_ret (b_ret (t_ret ?_))))
  refine ret1 rfl rfl (fun w' hm' => ?_)
  rw [show (receiveG s id n) = (32, s) from by unfold receiveG; rw [hl]]
  exact ⟨rfl, (esO, ckO, ms), ⟨hO, hfs, rfl, rfl⟩, hm'.less (List.sublist_cons_self _ _) (fun _ h => h)⟩
 exfalso
 rw [hb22, hb19] at hc20
 revert hc20; simp
theorem g_Receive {w : World} {L : List (Nat × Obj)} {ro : List Snap} {mF pF pO mO ckF ckO : Nat} {esF esO : Array MapEntry} {money : Int} {ms : List FM} {s : SG} (hm : Mem w ((pO, Obj.cells (orC pF s.tol mO).toArray 38) :: (mO, Obj.map esO ckO) :: (mF, Obj.map esF ckF) :: (pF, Obj.cells (fnC mF money).toArray 125) :: (FB 130 ms ++ L)) ro) (hF : MapF Tryz.prog 3 esF (fMM ms)) (hO : MapC Tryz.prog 3 esO ckO (fOL s.L)) (hfs : fsM ms = s.fs) (hok : SGok s) {id : Int} (hid : in64 id) (n : Int) (hn : in64 n) : Calls Tryz.prog 14 #[.pointer (some ⟨pO, 0, none⟩), .int .i64 id, .int .i64 n] w fun e w' => e = .returned (.int .i64 (receiveG s id n).1) ∧ ∃ q : Array MapEntry × Nat × List FM, (MapC Tryz.prog 3 q.1 q.2.1 (fOL (receiveG s id n).2.L) ∧ fsM q.2.2 = (receiveG s id n).2.fs ∧ fMM q.2.2 = fMM ms ∧ (receiveG s id n).2.tol = s.tol) ∧ Mem w' ((pO, Obj.cells (orC pF s.tol mO).toArray 38) :: (mO, Obj.map q.1 q.2.1) :: (mF, Obj.map esF ckF) :: (pF, Obj.cells (fnC mF money).toArray 125) :: (FB 130 q.2.2 ++ L)) ro := by
 cases hl : lkL s.L id with
 | none => exact g_Receive0 hm hF hO hfs hok hid hl n hn
 | some z => obtain ⟨x, first⟩ := z; exact g_Receive1 hm hF hO hfs hok hid hl n hn
theorem postG_f {R : FSt → Int → Int × FSt} (hR : ∀ {f : FSt} {n : Int}, (R f n).1 ≠ 0 → (R f n).2 = f) {fs : List FG} {id n : Int} (h : (postG R fs id n).1 ≠ 0) : (postG R fs id n).2 = fs := by
 unfold postG at h ⊢
 cases hl : lkF fs id with
 | none => rfl
 | some f => rw [hl] at h; dsimp only at h ⊢; rw [hR h]; exact setF_same hl
theorem g_Cancel1 {w : World} {L : List (Nat × Obj)} {ro : List Snap} {mF pF pO mO ckF ckO : Nat} {esF esO : Array MapEntry} {money : Int} {ms : List FM} {s : SG} (hm : Mem w ((pO, Obj.cells (orC pF s.tol mO).toArray 38) :: (mO, Obj.map esO ckO) :: (mF, Obj.map esF ckF) :: (pF, Obj.cells (fnC mF money).toArray 125) :: (FB 130 ms ++ L)) ro) (hF : MapF Tryz.prog 3 esF (fMM ms)) (hO : MapC Tryz.prog 3 esO ckO (fOL s.L)) (hfs : fsM ms = s.fs) (hok : SGok s) {id : Int} (hid : in64 id) {x : PK.Ord} {first : Int} (hl : lkL s.L id = some (x, first)) :
  Calls Tryz.prog 16 #[.pointer (some ⟨pO, 0, none⟩), .int .i64 id] w fun e w' => e = .returned (.int .i64 (cancelG s id).1) ∧ ∃ q : Array MapEntry × Nat × List FM, (MapC Tryz.prog 3 q.1 q.2.1 (fOL (cancelG s id).2.L) ∧ fsM q.2.2 = (cancelG s id).2.fs ∧ fMM q.2.2 = fMM ms ∧ (cancelG s id).2.tol = s.tol) ∧ Mem w' ((pO, Obj.cells (orC pF s.tol mO).toArray 38) :: (mO, Obj.map q.1 q.2.1) :: (mF, Obj.map esF ckF) :: (pF, Obj.cells (fnC mF money).toArray 125) :: (FB 130 q.2.2 ++ L)) ro := by
 obtain ⟨hx, hfi1, hfi2⟩ := hok.at hl
 have hxid : x.id = id := (lkL_mem hl).2
 have hhere : (lkL s.L x.id).isSome = true := by rw [hxid, hl]; rfl
 have htol := hok.tol
 have hfk : ∀ f ∈ fsM ms, fundOK f.s := by rw [hfs]; exact hok.fs
 obtain ⟨⟨o1, o2⟩, ⟨o3, o4⟩, ⟨o5, o6⟩, ⟨o7, o8⟩, ⟨o9, o10⟩, ⟨o11, o12⟩, ⟨o13, o14⟩, ⟨o15, o16⟩, o17, o18⟩ := show ordN x from hx
 have hres : -99980001000000 ≤ resP x ∧ resP x ≤ 99980001000000 := resN hx
 refine enter_in hm (vs := [.pointer (some ⟨pO, 0, none⟩), .int .i64 id]) Tryz.func16 rfl Tryz.ntmps16 rfl ?_
 refine Zs (Zr ?_)
 refine Xa ?_
 refine Ze (Zt (Zs (Zs (Zr ?_))))
 refine Xm ?_
 refine Xv (v := Value.bool false) rfl (v_pnil (o := some ⟨pO, 0, none⟩) u27 rfl rfl) ?_
 refine Ze (Zt ?_)
 refine w_cond rfl (fun hc9 => ?_) (fun hc9 => ?_)
 ·cases hc9
 skip
 refine w_skip (Zt (Zs (Zr ?_)))
 refine Xm ?_
 refine Xv rfl (v_nilCheck rfl) ?_
 refine Xv rfl (v_fieldAddr (off' := 2) u38 rfl sz36 (by decide) rfl rfl) ?_
 refine Xv rfl (v_load u36 rfl rfl (at_ownL (vs := orC pF s.tol mO) (.head _) rfl)) ?_
 refine Xm ?_
 refine Xv (v := Value.tuple #[orV x first, .bool true]) rfl (v_lookup2H u36 (Maps.int_keyed u3) zr100 rfl rfl (Maps.keyOf_int_mk u3 (wf_in hid)) (map_own (.tail _ (.head _))) hO.f (by rw [fOL_at, hl]; rfl) (by rw [fOL_at, hl]; rfl)) ?_
 refine Xm ?_
 refine Xv rfl (v_extract rfl rfl) ?_
 refine Xb rfl (v_extract rfl rfl) fun b18 hb18 => ?_
 refine x_alloc rfl rfl rfl zr100 ?_
 intro p5
 refine x_store0 [] rfl rfl rfl rfl sz100 rfl rfl ?_
 refine Xa ?_
 refine Ze (Zt (Zs (w_block (Zs (Zr ?_)))))
 refine Xm ?_
 refine Xb rfl (v_not rfl) fun b21 hb21 => ?_
 refine Xa ?_
 refine Ze (Zt ?_)
 refine w_cond rfl (fun hc19 => ?_) (fun hc19 => ?_)
 ·exfalso
  rw [hb21, hb18] at hc19
  revert hc19; simp
 simp only [hb21, hb18, Qz, ne_eq] at hc19
 refine Zs (Zr ?_)
 refine Xv rfl (v_fieldAddr (off' := 0) u100 rfl sz25 (by decide) rfl rfl) ?_
 refine Xv rfl (v_fieldAddr (off' := 8) u25 rfl sz3 (by decide) rfl rfl) ?_
 refine Xv rfl (v_load u3 rfl rfl (at_ownL (vs := orC10 x first) (.head _) rfl)) ?_
 refine Xb rfl (v_eql rfl rfl) fun b26 hb26 => ?_
 refine Xm ?_
 refine Xi rfl rfl rfl (fun hg0 => by subst hg0; (try simp only [Qy]); exact v_fieldAddr (off' := 0) u100 rfl sz25 (by decide) rfl rfl) ?_
 refine Xi rfl rfl rfl (fun hg0 => by subst hg0; (try simp only [Qy]); exact v_fieldAddr (off' := 8) u25 rfl sz3 (by decide) rfl rfl) ?_
 refine Xi rfl rfl rfl (fun hg0 => by subst hg0; (try simp only [Qy]); exact v_load u3 rfl rfl (at_ownL (vs := orC10 x first) (.head _) rfl)) ?_
 refine Xi rfl rfl rfl (fun hg0 => by subst hg0; (try simp only [Qy]); exact v_fieldAddr (off' := 0) u100 rfl sz25 (by decide) rfl rfl) ?_
 refine Xi rfl rfl rfl (fun hg0 => by subst hg0; (try simp only [Qy]); exact v_fieldAddr (off' := 7) u25 rfl sz3 (by decide) rfl rfl) ?_
 refine Xi rfl rfl rfl (fun hg0 => by subst hg0; (try simp only [Qy]); exact v_load u3 rfl rfl (at_ownL (vs := orC10 x first) (.head _) rfl)) ?_
 refine Xj rfl rfl rfl (fun hg0 => by subst hg0; (try simp only [Qy]); exact v_gtr rfl rfl) fun b34 hb34 => ?_
 refine Xb rfl (v_or rfl rfl) fun b35 hb35 => ?_
 refine Xa ?_
 refine Ze (Zt ?_)
 refine w_cond rfl (fun hc22 => ?_) (fun hc22 => ?_)
 ·simp only [hb35, hb34, hb26, Qz, ne_eq] at hc22
  refine Zs (Zr ?_)
  refine Xa ?_
  refine Ze (Zt (w_ret (b_ret (t_ret ?_))))
  refine ret1 rfl rfl (fun w' hm' => ?_)
  rw [show (cancelG s id) = (50, s) from by unfold cancelG; rw [hl]; dsimp only; rw [← hfs, if_pos (by omega)]]
  exact ⟨rfl, (esO, ckO, ms), ⟨hO, hfs, rfl, rfl⟩, hm'.less (List.sublist_cons_self _ _) (fun _ h => h)⟩
 simp only [hb35, hb34, hb26, Qz, ne_eq] at hc22
 refine w_skip (b_norm (Zt (Zs (Zs ?_))))
 refine rg_draw 9 [(true, 0), (true, 1), (true, 2), (true, 3), (true, 4), (true, 5), (true, 6), (true, 7), (true, 8)] Zk Zk ?_
 refine Xm ?_
 refine Xv rfl (v_nilCheck rfl) ?_
 refine Xv rfl (v_fieldAddr (off' := 0) u38 rfl sz35 (by decide) rfl rfl) ?_
 refine Xv rfl (v_load u35 rfl rfl (at_ownL (vs := orC pF s.tol mO) (.tail _ (.head _)) rfl)) ?_
 refine Xv rfl (v_fieldAddr (off' := 0) u100 rfl sz25 (by decide) rfl rfl) ?_
 refine Xv rfl (v_fieldAddr (off' := 1) u25 rfl sz3 (by decide) rfl rfl) ?_
 refine Xv rfl (v_load u3 rfl rfl (at_ownL (vs := orC10 x first) (.head _) rfl)) ?_
 refine Xv rfl (v_load_blk (e := 100) (fz := (0, 0)) (cs := (orC10 x first).toArray) u100 rfl rfl (.head _) sz100) ?_
 refine x_callv rfl rfl rfl Tryz.func57 Zk rfl (fun w1 hw1 => g_res x first w1 hx) ?_
 refine x_turnf (τ := List FM) (v := Value.int .i64 (postG relP (fsM ms) x.fund (resP x)).1) (fun q => fsM q = (postG relP (fsM ms) x.fund (resP x)).2 ∧ fMM q = fMM ms) (fun q => (p5, Obj.cells (orC10 x first).toArray 100) :: (pO, Obj.cells (orC pF s.tol mO).toArray 38) :: (mO, Obj.map esO ckO) :: (mF, Obj.map esF ckF) :: (pF, Obj.cells (fnC mF money).toArray 125) :: (FB 130 q ++ L)) rfl rfl Tryz.func58 Zk rfl (fun w1 hw1 => g_rel (l1 := [(p5, Obj.cells (orC10 x first).toArray 100), (pO, Obj.cells (orC pF s.tol mO).toArray 38), (mO, Obj.map esO ckO), (mF, Obj.map esF ckF), (pF, Obj.cells (fnC mF money).toArray 125)]) (ms := ms) hw1 hF Zh Zh hfk (x.fund) (by unfold in64; omega) (resP x)) fun m45 hm45 => ?_
 refine Xa ?_
 refine Ze (Zt (Zs (Zr ?_)))
 refine Xm ?_
 refine Xb rfl (v_neq rfl rfl) fun b47 hb47 => ?_
 refine Ze (Zt ?_)
 refine w_cond rfl (fun hc47 => ?_) (fun hc47 => ?_)
 ·simp only [hb47, Qz, ne_eq] at hc47
  refine Zs (Zr ?_)
  refine Xm ?_
  refine Xa ?_
  refine Ze (Zt (w_ret (t_ret ?_)))
  refine ret1 rfl rfl (fun w' hm' => ?_)
  have hf1 : (postG relP (fsM ms) x.fund (resP x)).2 = fsM ms := postG_f relP_f hc47
  rw [show (cancelG s id) = ((postG relP (fsM ms) x.fund (resP x)).1, s) from by unfold cancelG; rw [hl]; dsimp only; rw [← hfs, if_neg (by omega), if_pos (by simpa using hc47)]]
  exact ⟨rfl, (esO, ckO, m45), ⟨hO, hm45.1.trans (hf1.trans hfs), hm45.2, rfl⟩, hm'.less (List.sublist_cons_self _ _) (fun _ h => h)⟩
 simp only [hb47, Qz, ne_eq] at hc47
 refine w_skip (Zt (Zs (Zr ?_)))
 refine Xv rfl (v_fieldAddr (off' := 0) u100 rfl sz25 (by decide) rfl rfl) ?_
 refine Xv rfl (v_fieldAddr (off' := 7) u25 rfl sz3 (by decide) rfl rfl) ?_
 refine Xv rfl (v_load u3 rfl rfl (at_ownL (vs := orC10 x first) (.head _) rfl)) ?_
 refine Xv rfl (v_fieldAddr (off' := 0) u100 rfl sz25 (by decide) rfl rfl) ?_
 refine Xv rfl (v_fieldAddr (off' := 6) u25 rfl sz3 (by decide) rfl rfl) ?_
 refine x_store (cs := orC10 x first) (off := 6) (e := 100) (l2 := (pO, Obj.cells (orC pF s.tol mO).toArray 38) :: (mO, Obj.map esO ckO) :: (mF, Obj.map esF ckF) :: (pF, Obj.cells (fnC mF money).toArray 125) :: (FB 130 m45 ++ L)) [] rfl rfl rfl rfl sz3 rfl (by show 7 ≤ 10; decide) ?_
 refine Xv rfl (v_fieldAddr (off' := 0) u100 rfl sz25 (by decide) rfl rfl) ?_
 refine Xv rfl (v_fieldAddr (off' := 8) u25 rfl sz3 (by decide) rfl rfl) ?_
 refine x_store (cs := orC10 { x with prom := x.paid } first) (off := 8) (e := 100) (l2 := (pO, Obj.cells (orC pF s.tol mO).toArray 38) :: (mO, Obj.map esO ckO) :: (mF, Obj.map esF ckF) :: (pF, Obj.cells (fnC mF money).toArray 125) :: (FB 130 m45 ++ L)) [] rfl rfl rfl rfl sz3 rfl (by show 9 ≤ 10; decide) ?_
 refine Ze (Zt (Zs (Zr ?_)))
 refine Xm ?_
 refine Xv rfl (v_load_blk (e := 100) (fz := (0, 0)) (cs := (orC10 { x with prom := x.paid, st := -1 } first).toArray) u100 rfl rfl (.head _) sz100) ?_
 refine x_turnf (τ := Array MapEntry × Nat) (v := Value.tuple #[]) (fun q => MapC Tryz.prog 3 q.1 q.2 (fOL (setL s.L ({ x with prom := x.paid, st := -1 }, first)))) (fun q => [(p5, Obj.cells (orC10 { x with prom := x.paid, st := -1 } first).toArray 100)] ++ (pO, Obj.cells (orC pF s.tol mO).toArray 38) :: (mO, Obj.map q.1 q.2) :: (mF, Obj.map esF ckF) :: (pF, Obj.cells (fnC mF money).toArray 125) :: (FB 130 m45 ++ L)) rfl rfl Tryz.func53 Zk rfl (fun w1 hw1 => (g_put (l1 := [(p5, Obj.cells (orC10 { x with prom := x.paid, st := -1 } first).toArray 100)]) { x with prom := x.paid, st := -1 } first hw1 hO (by unfold in64; dsimp only; omega)).mono fun e w2 ⟨h1, q, h2, h3⟩ => ⟨h1, q, by rw [← (fOL_set (y := ({ x with prom := x.paid, st := -1 }, first)) hhere)]; exact h2, h3⟩) fun q58 hq58 => ?_
 refine Ze (Zt (Zs (Zr ?_)))
 refine Xa ?_
 refine Ze (Zt (w_ret ?_))
 refine ret1 rfl rfl (fun w' hm' => ?_)
 rw [show (cancelG s id) = (0, ⟨(postG relP (fsM ms) x.fund (resP x)).2, s.tol, setL s.L ({ x with prom := x.paid, st := -1 }, first)⟩) from by unfold cancelG; rw [hl]; dsimp only; rw [← hfs, if_neg (by omega), if_neg (by simpa using hc47)]]
 exact ⟨rfl, (q58.1, q58.2, m45), ⟨hq58, hm45.1, hm45.2, rfl⟩, hm'.less (List.sublist_cons_self _ _) (fun _ h => h)⟩
theorem g_Cancel0 {w : World} {L : List (Nat × Obj)} {ro : List Snap} {mF pF pO mO ckF ckO : Nat} {esF esO : Array MapEntry} {money : Int} {ms : List FM} {s : SG} (hm : Mem w ((pO, Obj.cells (orC pF s.tol mO).toArray 38) :: (mO, Obj.map esO ckO) :: (mF, Obj.map esF ckF) :: (pF, Obj.cells (fnC mF money).toArray 125) :: (FB 130 ms ++ L)) ro) (hF : MapF Tryz.prog 3 esF (fMM ms)) (hO : MapC Tryz.prog 3 esO ckO (fOL s.L)) (hfs : fsM ms = s.fs) (hok : SGok s) {id : Int} (hid : in64 id) (hl : lkL s.L id = none) :
  Calls Tryz.prog 16 #[.pointer (some ⟨pO, 0, none⟩), .int .i64 id] w fun e w' => e = .returned (.int .i64 (cancelG s id).1) ∧ ∃ q : Array MapEntry × Nat × List FM, (MapC Tryz.prog 3 q.1 q.2.1 (fOL (cancelG s id).2.L) ∧ fsM q.2.2 = (cancelG s id).2.fs ∧ fMM q.2.2 = fMM ms ∧ (cancelG s id).2.tol = s.tol) ∧ Mem w' ((pO, Obj.cells (orC pF s.tol mO).toArray 38) :: (mO, Obj.map q.1 q.2.1) :: (mF, Obj.map esF ckF) :: (pF, Obj.cells (fnC mF money).toArray 125) :: (FB 130 q.2.2 ++ L)) ro := by
 refine enter_in hm (vs := [.pointer (some ⟨pO, 0, none⟩), .int .i64 id]) Tryz.func16 rfl Tryz.ntmps16 rfl ?_
 refine Zs (Zr ?_)
 refine Xa ?_
 refine Ze (Zt (Zs (Zs (Zr ?_))))
 refine Xm ?_
 refine Xv (v := Value.bool false) rfl (v_pnil (o := some ⟨pO, 0, none⟩) u27 rfl rfl) ?_
 refine Ze (Zt ?_)
 refine w_cond rfl (fun hc9 => ?_) (fun hc9 => ?_)
 ·cases hc9
 skip
 refine w_skip (Zt (Zs (Zr ?_)))
 refine Xm ?_
 refine Xv rfl (v_nilCheck rfl) ?_
 refine Xv rfl (v_fieldAddr (off' := 2) u38 rfl sz36 (by decide) rfl rfl) ?_
 refine Xv rfl (v_load u36 rfl rfl (at_ownL (vs := orC pF s.tol mO) (.head _) rfl)) ?_
 refine Xm ?_
 refine Xv (v := Value.tuple #[.agg (orC10 zeroO 0).toArray, .bool false]) rfl (v_lookup2H u36 (Maps.int_keyed u3) zr100 rfl rfl (Maps.keyOf_int_mk u3 (wf_in hid)) (map_own (.tail _ (.head _))) hO.f (by rw [fOL_at, hl]; rfl) (by rw [fOL_at, hl]; rfl)) ?_
 refine Xm ?_
 refine Xv rfl (v_extract rfl rfl) ?_
 refine Xb rfl (v_extract rfl rfl) fun b18 hb18 => ?_
 refine x_alloc rfl rfl rfl zr100 ?_
 intro p5
 refine x_store0 [] rfl rfl rfl rfl sz100 rfl rfl ?_
 refine Xa ?_
 refine Ze (Zt (Zs (w_block (Zs (Zr ?_)))))
 refine Xm ?_
 refine Xb rfl (v_not rfl) fun b21 hb21 => ?_
 refine Xa ?_
 refine Ze (Zt ?_)
 refine w_cond rfl (fun hc19 => ?_) (fun hc19 => ?_)
 ·simp only [hb21, hb18, Qz, ne_eq] at hc19
  refine Zs (Zr ?_)
  refine Xa ?_
  refine Ze (Zt (w_ret (b_ret (t_ret ?_))))
  refine ret1 rfl rfl (fun w' hm' => ?_)
  rw [show (cancelG s id) = (32, s) from by unfold cancelG; rw [hl]]
  exact ⟨rfl, (esO, ckO, ms), ⟨hO, hfs, rfl, rfl⟩, hm'.less (List.sublist_cons_self _ _) (fun _ h => h)⟩
 exfalso
 rw [hb21, hb18] at hc19
 revert hc19; simp
theorem g_Cancel {w : World} {L : List (Nat × Obj)} {ro : List Snap} {mF pF pO mO ckF ckO : Nat} {esF esO : Array MapEntry} {money : Int} {ms : List FM} {s : SG} (hm : Mem w ((pO, Obj.cells (orC pF s.tol mO).toArray 38) :: (mO, Obj.map esO ckO) :: (mF, Obj.map esF ckF) :: (pF, Obj.cells (fnC mF money).toArray 125) :: (FB 130 ms ++ L)) ro) (hF : MapF Tryz.prog 3 esF (fMM ms)) (hO : MapC Tryz.prog 3 esO ckO (fOL s.L)) (hfs : fsM ms = s.fs) (hok : SGok s) {id : Int} (hid : in64 id) : Calls Tryz.prog 16 #[.pointer (some ⟨pO, 0, none⟩), .int .i64 id] w fun e w' => e = .returned (.int .i64 (cancelG s id).1) ∧ ∃ q : Array MapEntry × Nat × List FM, (MapC Tryz.prog 3 q.1 q.2.1 (fOL (cancelG s id).2.L) ∧ fsM q.2.2 = (cancelG s id).2.fs ∧ fMM q.2.2 = fMM ms ∧ (cancelG s id).2.tol = s.tol) ∧ Mem w' ((pO, Obj.cells (orC pF s.tol mO).toArray 38) :: (mO, Obj.map q.1 q.2.1) :: (mF, Obj.map esF ckF) :: (pF, Obj.cells (fnC mF money).toArray 125) :: (FB 130 q.2.2 ++ L)) ro := by
 cases hl : lkL s.L id with
 | none => exact g_Cancel0 hm hF hO hfs hok hid hl 
 | some z => obtain ⟨x, first⟩ := z; exact g_Cancel1 hm hF hO hfs hok hid hl 
end Go.Proofs.YtifekogdhjabaaaGreatDoor

/-
  DERIVED: THE SHELF's CONTRACTS AT THIS DUMP, IN PLAIN WORDS (tools/lay-plain.mjs out of 'TryzKeys.lean', which tools/lay-shelf.mjs wrote): THE SAME DECLARATIONS UNDER THE SAME NAMES: 'import', 'namespace', 'open', 'def', 'theorem' AND NOTHING ELSE: no command of the shelf's: FOR A HAND-IN. Each laying: the table of numbers ('.._ren') and one theorem, a field a fact of the dump's own or the kernel's comparison; each contract: ONE APPLICATION.
-/
namespace Go.Proofs
open Go.Shelf
def Tryz.keysO_ren : Go.Shelf.Ren := ⟨fun | 7 => 66 | 10 => 125 | n => n, fun | 23 => 36 | 26 => 3 | 3 => 100 | 28 => 118 | 0 => 0 | 27 => 117 | 33 => 179 | 4 => 4 | n => n, fun | n => n⟩
theorem Tryz.keysO : Go.Proofs.SlLaysZI.n7 Tryz.prog Tryz.keysO_ren := {
  mixed := by kernel_rfl
  f7 := ⟨Tryz.f66.name, by decide, Tryz.func66.trans (congrArg some (by kernel_rfl))⟩
  f10 := ⟨Tryz.f125.name, by decide, Tryz.func125.trans (congrArg some (by kernel_rfl))⟩
  t0 := Tryz.underlying0
  a0 := Tryz.isAgg0
  z0 := Tryz.sizeOf0
  v0 := Tryz.zeroValue0
  t4 := Tryz.underlying4
  a4 := Tryz.isAgg4
  z4 := Tryz.sizeOf4
  v4 := Tryz.zeroValue4
  t23 := Tryz.underlying36
  a23 := Tryz.isAgg36
  z23 := Tryz.sizeOf36
  v23 := Tryz.zeroValue36
  t26 := Tryz.underlying3
  a26 := Tryz.isAgg3
  z26 := Tryz.sizeOf3
  v26 := Tryz.zeroValue3
  t27 := Tryz.underlying117
  a27 := Tryz.isAgg117
  z27 := Tryz.sizeOf117
  v27 := Tryz.zeroValue117
  t28 := Tryz.underlying118
  a28 := Tryz.isAgg118
  z28 := Tryz.sizeOf118
  v28 := Tryz.zeroValue118
  t33 := Tryz.underlying179
  a33 := Tryz.isAgg179
  z33 := Tryz.sizeOf179
  v33 := Tryz.zeroValue179 }
def Tryz.keysF_ren : Go.Shelf.Ren := ⟨fun | 7 => 68 | 10 => 126 | n => n, fun | 23 => 123 | 26 => 3 | 3 => 126 | 28 => 118 | 0 => 0 | 27 => 117 | 33 => 179 | 4 => 4 | n => n, fun | n => n⟩
theorem Tryz.keysF : Go.Proofs.SlLaysZI.n7 Tryz.prog Tryz.keysF_ren := {
  mixed := by kernel_rfl
  f7 := ⟨Tryz.f68.name, by decide, Tryz.func68.trans (congrArg some (by kernel_rfl))⟩
  f10 := ⟨Tryz.f126.name, by decide, Tryz.func126.trans (congrArg some (by kernel_rfl))⟩
  t0 := Tryz.underlying0
  a0 := Tryz.isAgg0
  z0 := Tryz.sizeOf0
  v0 := Tryz.zeroValue0
  t4 := Tryz.underlying4
  a4 := Tryz.isAgg4
  z4 := Tryz.sizeOf4
  v4 := Tryz.zeroValue4
  t23 := Tryz.underlying123
  a23 := Tryz.isAgg123
  z23 := Tryz.sizeOf123
  v23 := Tryz.zeroValue123
  t26 := Tryz.underlying3
  a26 := Tryz.isAgg3
  z26 := Tryz.sizeOf3
  v26 := Tryz.zeroValue3
  t27 := Tryz.underlying117
  a27 := Tryz.isAgg117
  z27 := Tryz.sizeOf117
  v27 := Tryz.zeroValue117
  t28 := Tryz.underlying118
  a28 := Tryz.isAgg118
  z28 := Tryz.sizeOf118
  v28 := Tryz.zeroValue118
  t33 := Tryz.underlying179
  a33 := Tryz.isAgg179
  z33 := Tryz.sizeOf179
  v33 := Tryz.zeroValue179 }
def Tryz.sorted_ren : Go.Shelf.Ren := ⟨fun | 6 => 65 | 8 => 123 | 9 => 124 | 11 => 168 | 13 => 170 | 12 => 169 | 23 => 196 | 24 => 197 | 14 => 188 | 15 => 189 | 16 => 190 | 17 => 191 | 18 => 192 | 19 => 193 | 20 => 172 | 21 => 194 | 22 => 195 | 25 => 212 | 26 => 213 | 27 => 214 | 28 => 215 | 29 => 216 | 30 => 198 | 31 => 232 | n => n, fun | 26 => 3 | 28 => 118 | 24 => 44 | 0 => 0 | 3 => 3 | 37 => 222 | 48 => 246 | 50 => 151 | 4 => 4 | 40 => 240 | 39 => 239 | 45 => 115 | 5 => 5 | 9 => 9 | 51 => 259 | 55 => 262 | 57 => 276 | 58 => 277 | 33 => 179 | n => n, fun | n => n⟩
theorem Tryz.sorted : Go.Proofs.SlLaysZI.n6 Tryz.prog Tryz.sorted_ren := {
  mixed := by kernel_rfl
  f6 := ⟨Tryz.f65.name, by decide, Tryz.func65.trans (congrArg some (by kernel_rfl))⟩
  f8 := ⟨Tryz.f123.name, by decide, Tryz.func123.trans (congrArg some (by kernel_rfl))⟩
  f11 := ⟨Tryz.f168.name, by decide, Tryz.func168.trans (congrArg some (by kernel_rfl))⟩
  t0 := Tryz.underlying0
  a0 := Tryz.isAgg0
  z0 := Tryz.sizeOf0
  v0 := Tryz.zeroValue0
  t24 := Tryz.underlying44
  a24 := Tryz.isAgg44
  z24 := Tryz.sizeOf44
  v24 := Tryz.zeroValue44
  t26 := Tryz.underlying3
  a26 := Tryz.isAgg3
  z26 := Tryz.sizeOf3
  v26 := Tryz.zeroValue3
  t28 := Tryz.underlying118
  a28 := Tryz.isAgg118
  z28 := Tryz.sizeOf118
  v28 := Tryz.zeroValue118
  i26 := by kernel_rfl }
def Tryz.sort_ren : Go.Shelf.Ren := ⟨fun | 5 => 124 | 8 => 170 | 7 => 169 | 19 => 196 | 20 => 197 | 10 => 188 | 11 => 189 | 12 => 190 | 13 => 191 | 14 => 192 | 15 => 193 | 16 => 172 | 17 => 194 | 18 => 195 | 30 => 212 | 31 => 213 | 32 => 214 | 33 => 215 | 34 => 216 | 35 => 198 | 40 => 232 | n => n, fun | 23 => 44 | 25 => 3 | 3 => 3 | 32 => 222 | 22 => 44 | 0 => 0 | 44 => 246 | 46 => 151 | 4 => 4 | 36 => 240 | 35 => 239 | 41 => 115 | 5 => 5 | 9 => 9 | 53 => 259 | 57 => 262 | 63 => 276 | 64 => 277 | n => n, fun | n => n⟩
theorem Tryz.sort : Go.Proofs.SlLaysM.n5 Tryz.prog Tryz.sort_ren := {
  mixed := by kernel_rfl
  f5 := ⟨Tryz.f124.name, by decide, Tryz.func124.trans (congrArg some (by kernel_rfl))⟩
  f7 := ⟨Tryz.f169.name, by decide, Tryz.func169.trans (congrArg some (by kernel_rfl))⟩
  f8 := Tryz.func170.trans (congrArg some (by kernel_rfl))
  f10 := ⟨Tryz.f188.name, by decide, Tryz.func188.trans (congrArg some (by kernel_rfl))⟩
  f11 := ⟨Tryz.f189.name, by decide, Tryz.func189.trans (congrArg some (by kernel_rfl))⟩
  f12 := ⟨Tryz.f190.name, by decide, Tryz.func190.trans (congrArg some (by kernel_rfl))⟩
  f13 := ⟨Tryz.f191.name, by decide, Tryz.func191.trans (congrArg some (by kernel_rfl))⟩
  f14 := ⟨Tryz.f192.name, by decide, Tryz.func192.trans (congrArg some (by kernel_rfl))⟩
  f15 := ⟨Tryz.f193.name, by decide, Tryz.func193.trans (congrArg some (by kernel_rfl))⟩
  f16 := ⟨Tryz.f172.name, by decide, Tryz.func172.trans (congrArg some (by kernel_rfl))⟩
  f17 := ⟨Tryz.f194.name, by decide, Tryz.func194.trans (congrArg some (by kernel_rfl))⟩
  f18 := ⟨Tryz.f195.name, by decide, Tryz.func195.trans (congrArg some (by kernel_rfl))⟩
  f19 := Tryz.func196.trans (congrArg some (by kernel_rfl))
  f20 := Tryz.func197.trans (congrArg some (by kernel_rfl))
  f30 := ⟨Tryz.f212.name, by decide, Tryz.func212.trans (congrArg some (by kernel_rfl))⟩
  f31 := Tryz.func213.trans (congrArg some (by kernel_rfl))
  f32 := Tryz.func214.trans (congrArg some (by kernel_rfl))
  f33 := ⟨Tryz.f215.name, by decide, Tryz.func215.trans (congrArg some (by kernel_rfl))⟩
  f34 := ⟨Tryz.f216.name, by decide, Tryz.func216.trans (congrArg some (by kernel_rfl))⟩
  f35 := ⟨Tryz.f198.name, by decide, Tryz.func198.trans (congrArg some (by kernel_rfl))⟩
  f40 := ⟨Tryz.f232.name, by decide, Tryz.func232.trans (congrArg some (by kernel_rfl))⟩
  t0 := Tryz.underlying0
  a0 := Tryz.isAgg0
  z0 := Tryz.sizeOf0
  v0 := Tryz.zeroValue0
  t3 := Tryz.underlying3
  a3 := Tryz.isAgg3
  z3 := Tryz.sizeOf3
  v3 := Tryz.zeroValue3
  t4 := Tryz.underlying4
  a4 := Tryz.isAgg4
  z4 := Tryz.sizeOf4
  v4 := Tryz.zeroValue4
  t5 := Tryz.underlying5
  a5 := Tryz.isAgg5
  z5 := Tryz.sizeOf5
  v5 := Tryz.zeroValue5
  t9 := Tryz.underlying9
  a9 := Tryz.isAgg9
  z9 := Tryz.sizeOf9
  v9 := Tryz.zeroValue9
  t22 := Tryz.underlying44
  a22 := Tryz.isAgg44
  z22 := Tryz.sizeOf44
  v22 := Tryz.zeroValue44
  t23 := Tryz.underlying44
  a23 := Tryz.isAgg44
  z23 := Tryz.sizeOf44
  v23 := Tryz.zeroValue44
  t25 := Tryz.underlying3
  a25 := Tryz.isAgg3
  z25 := Tryz.sizeOf3
  v25 := Tryz.zeroValue3
  t32 := Tryz.underlying222
  a32 := Tryz.isAgg222
  z32 := Tryz.sizeOf222
  v32 := Tryz.zeroValue222
  t35 := Tryz.underlying239
  a35 := Tryz.isAgg239
  z35 := Tryz.sizeOf239
  v35 := Tryz.zeroValue239
  t36 := Tryz.underlying240
  a36 := Tryz.isAgg240
  z36 := Tryz.sizeOf240
  v36 := Tryz.zeroValue240
  t41 := Tryz.underlying115
  a41 := Tryz.isAgg115
  z41 := Tryz.sizeOf115
  v41 := Tryz.zeroValue115
  t44 := Tryz.underlying246
  a44 := Tryz.isAgg246
  z44 := Tryz.sizeOf246
  v44 := Tryz.zeroValue246
  t46 := Tryz.underlying151
  a46 := Tryz.isAgg151
  z46 := Tryz.sizeOf151
  v46 := Tryz.zeroValue151
  t53 := Tryz.underlying259
  a53 := Tryz.isAgg259
  z53 := Tryz.sizeOf259
  v53 := Tryz.zeroValue259
  t57 := Tryz.underlying262
  a57 := Tryz.isAgg262
  z57 := Tryz.sizeOf262
  v57 := Tryz.zeroValue262
  t63 := Tryz.underlying276
  a63 := Tryz.isAgg276
  z63 := Tryz.sizeOf276
  v63 := Tryz.zeroValue276
  t64 := Tryz.underlying277
  a64 := Tryz.isAgg277
  z64 := Tryz.sizeOf277
  v64 := Tryz.zeroValue277 }
end Go.Proofs

namespace Go.Proofs.YtifekogdhjabaaaGreatDoor
open Go.RowKit Go.PK
open Go.Maps Go.Sort Go.Shelf
theorem sortsA (m : Nat) : AnyZI.SortsIn Tryz.prog Tryz.sorted_ren Fence.wide m :=
 ⟨fun blk off cap ss W hH hblk hsz => callsIn_wide.2 (AnyM.slices_Sort_int Tryz.sort blk off cap ss W hH hblk hsz),
  fun p cap W => callsIn_wide.2 (AnyM.slices_Sort_int_none Tryz.sort p cap W)⟩
theorem g_KeysO (mb : Option Nat) (w : World) : Calls Tryz.prog 66 #[.map mb] w fun e w' => ∃ Bm : Nat, e = .returned (.func (.func 125) #[] #[.pointer (some ⟨Bm, 0, none⟩)]) ∧ Later w w' ∧ Mem w' [(Bm, Obj.cells #[.map mb] 36)] [(w, fun _ => True)] :=
 ((callsIn_wide (n := 5)).1 (AnyZI.keys_in Tryz.keysO Fence.wide 5 trivial rfl mb w)).mono fun e w' ⟨h1, h2⟩ => ⟨w.heap.size, h1, by rw [h2]; exact Later.alloc w _, by rw [h2]; exact (Mem.init w).new _⟩
theorem g_SortedO {es : Array MapEntry} {ck : Nat} {Φ : Value → Option Value} {ids : List Int} (Bm b : Nat) (w : World) (hBm : w.cell? ⟨Bm, 0, none⟩ = some (.map (some b))) (hb : w.heap[b]? = some (.map es ck)) (hC : MapC Tryz.prog 3 es ck Φ) (hk : keysIs Φ ids) (hs : ids.Pairwise (· < ·)) (hn : ids.length ≤ 1000000) (hin : ∀ n ∈ ids, in64 n) :
  Calls Tryz.prog 65 #[.func (.func 125) #[] #[.pointer (some ⟨Bm, 0, none⟩)]] w fun e w' => ∃ v, e = .returned v ∧ Later w w' ∧ sliceRd tyI (fun b => w.heap.size ≤ b) w' v ids := by
 obtain ⟨D, hD1, hD2, hD3⟩ := hC.owns hk u3 (by unfold maxLen; omega) hb
 have hseq : SeqGives Fence.wide 2 Tryz.prog 125 #[.pointer (some ⟨Bm, 0, none⟩)] encZ (fun ss => ss.Perm (intKeys D)) (Maps.size D) w :=
  AnyZI.keys_gives (ρ := Tryz.keysO_ren) { Tryz.keysO with } Fence.wide _ trivial rfl (by omega) Bm b _ D w (cell_lt (p := ⟨Bm, 0, none⟩) hBm) hBm hD1
 have cS := AnyZI.sorted_in Tryz.sorted Fence.wide 5 trivial trivial trivial trivial rfl (by omega) (sortsA _) (enters_of Tryz.func124 Zk rfl) 125 #[.pointer (some ⟨Bm, 0, none⟩)] trivial (enters_of Tryz.func125 Zk rfl) _ _ (by rw [hD2]; unfold maxLen; omega) (by rw [hD2]; omega) _ hseq
 change CallsIn _ _ Tryz.prog 65 _ _ _ at cS
 refine ((callsIn_wide (n := 5)).1 cS).mono ?_
 rintro e w' ⟨v, ss, rfl, hp, hrow, _, hbel⟩
 have hp2 := hp.trans hD3
 rw [sort_ids hp2 hs, hp2.length_eq] at hrow
 exact ⟨v, rfl, ⟨hbel.os, hbel.tape, hbel.output, hbel.size, hbel.block⟩, owns_rd hrow hin⟩
theorem g_KeysF (mb : Option Nat) (w : World) : Calls Tryz.prog 68 #[.map mb] w fun e w' => ∃ Bm : Nat, e = .returned (.func (.func 126) #[] #[.pointer (some ⟨Bm, 0, none⟩)]) ∧ Later w w' ∧ Mem w' [(Bm, Obj.cells #[.map mb] 123)] [(w, fun _ => True)] :=
 ((callsIn_wide (n := 5)).1 (AnyZI.keys_in Tryz.keysF Fence.wide 5 trivial rfl mb w)).mono fun e w' ⟨h1, h2⟩ => ⟨w.heap.size, h1, by rw [h2]; exact Later.alloc w _, by rw [h2]; exact (Mem.init w).new _⟩
theorem g_SortedF {es : Array MapEntry} {ck : Nat} {Φ : Value → Option Value} {ids : List Int} (Bm b : Nat) (w : World) (hBm : w.cell? ⟨Bm, 0, none⟩ = some (.map (some b))) (hb : w.heap[b]? = some (.map es ck)) (hC : MapC Tryz.prog 3 es ck Φ) (hk : keysIs Φ ids) (hs : ids.Pairwise (· < ·)) (hn : ids.length ≤ 1000000) (hin : ∀ n ∈ ids, in64 n) :
  Calls Tryz.prog 65 #[.func (.func 126) #[] #[.pointer (some ⟨Bm, 0, none⟩)]] w fun e w' => ∃ v, e = .returned v ∧ Later w w' ∧ sliceRd tyI (fun b => w.heap.size ≤ b) w' v ids := by
 obtain ⟨D, hD1, hD2, hD3⟩ := hC.owns hk u3 (by unfold maxLen; omega) hb
 have hseq : SeqGives Fence.wide 2 Tryz.prog 126 #[.pointer (some ⟨Bm, 0, none⟩)] encZ (fun ss => ss.Perm (intKeys D)) (Maps.size D) w :=
  AnyZI.keys_gives (ρ := Tryz.keysF_ren) { Tryz.keysF with } Fence.wide _ trivial rfl (by omega) Bm b _ D w (cell_lt (p := ⟨Bm, 0, none⟩) hBm) hBm hD1
 have cS := AnyZI.sorted_in Tryz.sorted Fence.wide 5 trivial trivial trivial trivial rfl (by omega) (sortsA _) (enters_of Tryz.func124 Zk rfl) 126 #[.pointer (some ⟨Bm, 0, none⟩)] trivial (enters_of Tryz.func126 Zk rfl) _ _ (by rw [hD2]; unfold maxLen; omega) (by rw [hD2]; omega) _ hseq
 change CallsIn _ _ Tryz.prog 65 _ _ _ at cS
 refine ((callsIn_wide (n := 5)).1 cS).mono ?_
 rintro e w' ⟨v, ss, rfl, hp, hrow, _, hbel⟩
 have hp2 := hp.trans hD3
 rw [sort_ids hp2 hs, hp2.length_eq] at hrow
 exact ⟨v, rfl, ⟨hbel.os, hbel.tape, hbel.output, hbel.size, hbel.block⟩, owns_rd hrow hin⟩
open Go.RowKit Go.PK
theorem g_All {pO mO : Nat} {es : Array MapEntry} {ck : Nat} {Φ : Value → Option Value} {ids : List Int} (hk : keysIs Φ ids) (hs : ids.Pairwise (· < ·)) (hn : ids.length ≤ 1000000) (hin : ∀ n ∈ ids, in64 n) (w : World) (hC : MapC Tryz.prog 3 es ck (Φ)) (h1 : w.cell? ⟨pO, 2, none⟩ = some (.map (some mO))) (h2 : w.heap[mO]? = some (.map es ck)) :
  Calls Tryz.prog 20 #[.pointer (some ⟨pO, 0, none⟩)] w fun e w' => ∃ v, e = .returned v ∧ Later w w' ∧ sliceRd tyI (fun b => w.heap.size ≤ b) w' v ids := by
 refine enter (vs := [.pointer (some ⟨pO, 0, none⟩)]) Tryz.func20 rfl Tryz.ntmps20 rfl ?_
 refine Zs (Zr ?_)
 refine Xa ?_
 refine Ze (Zt (Zs (Zs (Zr ?_))))
 refine Xm ?_
 refine Xv (v := Value.bool false) rfl (v_pnil (o := some ⟨pO, 0, none⟩) u27 rfl rfl) ?_
 refine Ze (Zt ?_)
 refine w_cond rfl (fun hc4 => ?_) (fun hc4 => ?_)
 ·cases hc4
 skip
 refine w_skip (Zt (Zs (Zr ?_)))
 refine Xm ?_
 refine Xv rfl (v_nilCheck rfl) ?_
 refine Xv rfl (v_fieldAddr (off' := 2) u38 rfl sz36 (by decide) rfl rfl) ?_
 refine Xv rfl (v_load u36 rfl rfl (at_ro (.head _) trivial h1)) ?_
 refine x_own (τ := Nat) (fun Bm => .func (.func 125) #[] #[.pointer (some ⟨Bm, 0, none⟩)]) (fun _ => True) (fun Bm => [(Bm, Obj.cells #[.map (some mO)] 36)]) rfl rfl rfl Tryz.func66 Zk rfl (fun w1 hw1 => (g_KeysO (some mO) w1).mono fun e w2 ⟨Bm, h1, h2, h3⟩ => ⟨Bm, h1, h2, trivial, (hw1.join2 h3).to (by simp)⟩) fun Bm _ => ?_
 refine x_call (R := fun v wa wb => sliceRd tyI (fun b => wa.heap.size ≤ b) wb v ids) rfl rfl rfl Tryz.func65 Zk rfl (fun w1 hw1 => (g_SortedO Bm mO w1 (at_ownL (vs := [.map (some mO)]) (.head _) rfl w1 hw1) (((hw1.base (by simp)).block mO (heap_lt h2)).trans h2) hC hk hs hn hin).mono fun e w2 ⟨v, h1, h2, h3⟩ => ⟨v, h1, h2, h3⟩) fun v10 wa10 wb10 hm10 hl10 hR10 => ?_
 refine Xa ?_
 refine Ze (Zt (w_ret ?_))
 exact ret1 rfl rfl (fun w' hm => ⟨_, rfl, hm.base (by simp), hR10.keep (Kept.made0 hm hm10 (by simp) (by simp))⟩)
set_option maxHeartbeats 1000000 in
theorem g_EncO {pO mO : Nat} {es : Array MapEntry} {ck : Nat} {L : List EN} (w : World) (hs : srtL L) (hn : L.length ≤ 5000) (hen : ∀ e ∈ L, enN e) (hC : MapC Tryz.prog 3 es ck (fOL L)) (h1 : w.cell? ⟨pO, 2, none⟩ = some (.map (some mO))) (h2 : w.heap[mO]? = some (.map es ck)) :
  Calls Tryz.prog 18 #[.pointer (some ⟨pO, 0, none⟩)] w fun e w' => e = .returned (.string ⟨(intsG (encL L)).toArray⟩) ∧ Later w w' := by
 refine enter (vs := [.pointer (some ⟨pO, 0, none⟩)]) Tryz.func18 rfl Tryz.ntmps18 rfl ?_
 refine Zs (Zr ?_)
 refine Xa ?_
 refine Ze (Zt (Zs (Zs (Zr ?_))))
 refine Xm ?_
 refine Xv (v := Value.bool false) rfl (v_pnil (o := some ⟨pO, 0, none⟩) u27 rfl rfl) ?_
 refine Ze (Zt ?_)
 refine w_cond rfl (fun hc8 => ?_) (fun hc8 => ?_)
 ·cases hc8
 skip
 refine w_skip (Zt (Zs (Zr ?_)))
 refine Xa ?_
 refine Ze (Zt (Zs (Zs (Zr ?_))))
 refine Xm ?_
 refine x_call (R := fun v wa wb => sliceRd tyI (fun b => wa.heap.size ≤ b) wb v (L.map (·.1.id))) rfl rfl rfl Tryz.func20 Zk rfl (fun w1 hw1 => (g_All (ids := (L.map (·.1.id))) (fOL_keys hs) (srt_map hs) (by rw [List.length_map]; omega) (ids_in hen) w1 hC (at_ro (.head _) trivial h1 w1 hw1) (((hw1.base (by simp)).block mO (heap_lt h2)).trans h2)).mono fun e w2 ⟨v, h1, h2, h3⟩ => ⟨v, h1, h2, h3⟩) fun v10 wa10 wb10 hm10 hl10 hR10 => ?_
 obtain ⟨A10, c10, rfl, _⟩ := id hR10
 have hlen : (L.map (·.1.id)).length = L.length := List.length_map _
 rw [hlen] at hR10 ⊢
 refine Xv rfl (v_len_slice u44 rfl) ?_
 refine Xm ?_
 refine Ze (Zt (w_block ?_))
 refine w_loop (σ := Nat × RowS) (fun x => x.1 ≤ L.length ∧ rowOK 1 x.2 (x.1 * 10) ((encL (L.take x.1)).map (Value.int .i64))) (fun x => [(0, Value.pointer (some ⟨pO, 0, none⟩)), (3, rowV x.2 (x.1 * 10)), (10, Value.slice A10 L.length c10), (11, Value.int .i64 (L.length : Nat)), (12, Value.int .i64 (x.1 : Nat))]) (fun x => rowO 3 x.2) (fun x => [(wb10, notOwn []), (w, fun _ => True)]) (fun x => L.length - x.1) ((0, none)) (⟨Nat.zero_le _, rowOK_nil⟩) (l_start Zu (fun _ h => h)) ?_
 rintro ⟨k, R⟩ ⟨hkL, hR⟩
 refine w_state ([(0, Value.pointer (some ⟨pO, 0, none⟩)), (3, rowV R (k * 10)), (10, Value.slice A10 L.length c10), (11, Value.int .i64 (L.length : Nat)), (12, Value.int .i64 (k : Nat))]) (rowO 3 R) ([(wb10, notOwn []), (w, fun _ => True)]) ?_
 dsimp only at hkL hR
 refine Zs (Zr ?_)
 refine Xb rfl (v_lss rfl rfl) fun b13 hb13 => ?_
 refine Ze (Zt (Zs ?_))
 refine w_cond rfl (fun hc13 => ?_) (fun hc13 => ?_)
 ·simp only [hb13, Qz, ne_eq] at hc13
  have hkl : k < L.length := by omega
  obtain ⟨b0, o0, hA0, hD0, hc0, hin0⟩ := int_at hR10 (k := k) (by rw [List.length_map]; exact hkl)
  have hlk := lkL_at hs hkl
  rw [List.getElem_map] at hc0 hin0
  refine w_skip (Zt (Zs (w_block (Zs (Zr ?_)))))
  refine Xv rfl (v_indexAddr u44 sz3 (congrArg (fun A => some (Value.slice A L.length c10)) hA0) rfl Zo rfl) ?_
  refine Xv rfl (v_load u3 rfl rfl (at_ro (.head _) (fun q hq => by cases hq) (by rw [Nat.mul_one]; exact hc0))) ?_
  refine Xa ?_
  refine Ze (Zt (Zs (Zr ?_)))
  refine Xm ?_
  refine Xv rfl (v_nilCheck rfl) ?_
  refine Xv rfl (v_fieldAddr (off' := 2) u38 rfl sz36 (by decide) rfl rfl) ?_
  refine Xv rfl (v_load u36 rfl rfl (at_ro (.tail _ (.head _)) trivial h1)) ?_
  refine Xm ?_
  refine Xv (v := orV L[k].1 L[k].2) rfl (v_lookupH u36 (Maps.int_keyed u3) zr100 rfl rfl (Maps.keyOf_int_mk u3 (wf_in hin0)) (map_ro (.tail _ (.head _)) trivial h2) hC.f (by rw [fOL_at, hlk]; rfl)) ?_
  refine x_alloc rfl rfl rfl zr100 ?_
  intro p6
  refine x_store0 [] rfl rfl rfl rfl sz100 rfl rfl ?_
  refine Ze (Zt (Zr ?_))
  refine Xm ?_
  refine Xv rfl (v_fieldAddr (off' := 0) u100 rfl sz25 (by decide) rfl rfl) ?_
  refine Xv rfl (v_fieldAddr (off' := 0) u25 rfl sz3 (by decide) rfl rfl) ?_
  refine Xv rfl (v_load u3 rfl rfl (at_ownL (vs := orC10 L[k].1 L[k].2) (.head _) rfl)) ?_
  refine Xv rfl (v_fieldAddr (off' := 0) u100 rfl sz25 (by decide) rfl rfl) ?_
  refine Xv rfl (v_fieldAddr (off' := 1) u25 rfl sz3 (by decide) rfl rfl) ?_
  refine Xv rfl (v_load u3 rfl rfl (at_ownL (vs := orC10 L[k].1 L[k].2) (.head _) rfl)) ?_
  refine Xv rfl (v_fieldAddr (off' := 0) u100 rfl sz25 (by decide) rfl rfl) ?_
  refine Xv rfl (v_fieldAddr (off' := 2) u25 rfl sz23 (by decide) rfl rfl) ?_
  refine Xv rfl (v_fieldAddr (off' := 2) u23 rfl sz3 (by decide) rfl rfl) ?_
  refine Xv rfl (v_load u3 rfl rfl (at_ownL (vs := orC10 L[k].1 L[k].2) (.head _) rfl)) ?_
  refine Xv rfl (v_fieldAddr (off' := 0) u100 rfl sz25 (by decide) rfl rfl) ?_
  refine Xv rfl (v_fieldAddr (off' := 2) u25 rfl sz23 (by decide) rfl rfl) ?_
  refine Xv rfl (v_fieldAddr (off' := 3) u23 rfl sz3 (by decide) rfl rfl) ?_
  refine Xv rfl (v_load u3 rfl rfl (at_ownL (vs := orC10 L[k].1 L[k].2) (.head _) rfl)) ?_
  refine Xv rfl (v_fieldAddr (off' := 0) u100 rfl sz25 (by decide) rfl rfl) ?_
  refine Xv rfl (v_fieldAddr (off' := 4) u25 rfl sz3 (by decide) rfl rfl) ?_
  refine Xv rfl (v_load u3 rfl rfl (at_ownL (vs := orC10 L[k].1 L[k].2) (.head _) rfl)) ?_
  refine Xv rfl (v_fieldAddr (off' := 0) u100 rfl sz25 (by decide) rfl rfl) ?_
  refine Xv rfl (v_fieldAddr (off' := 5) u25 rfl sz3 (by decide) rfl rfl) ?_
  refine Xv rfl (v_load u3 rfl rfl (at_ownL (vs := orC10 L[k].1 L[k].2) (.head _) rfl)) ?_
  refine Xv rfl (v_fieldAddr (off' := 0) u100 rfl sz25 (by decide) rfl rfl) ?_
  refine Xv rfl (v_fieldAddr (off' := 6) u25 rfl sz3 (by decide) rfl rfl) ?_
  refine Xv rfl (v_load u3 rfl rfl (at_ownL (vs := orC10 L[k].1 L[k].2) (.head _) rfl)) ?_
  refine Xv rfl (v_fieldAddr (off' := 0) u100 rfl sz25 (by decide) rfl rfl) ?_
  refine Xv rfl (v_fieldAddr (off' := 7) u25 rfl sz3 (by decide) rfl rfl) ?_
  refine Xv rfl (v_load u3 rfl rfl (at_ownL (vs := orC10 L[k].1 L[k].2) (.head _) rfl)) ?_
  refine Xv rfl (v_fieldAddr (off' := 0) u100 rfl sz25 (by decide) rfl rfl) ?_
  refine Xv rfl (v_fieldAddr (off' := 8) u25 rfl sz3 (by decide) rfl rfl) ?_
  refine Xv rfl (v_load u3 rfl rfl (at_ownL (vs := orC10 L[k].1 L[k].2) (.head _) rfl)) ?_
  refine Xv rfl (v_fieldAddr (off' := 9) u100 rfl sz3 (by decide) rfl rfl) ?_
  refine Xv rfl (v_load u3 rfl rfl (at_ownL (vs := orC10 L[k].1 L[k].2) (.head _) rfl)) ?_
  refine x_buildSliceL (cs := [Value.int .i64 L[k].1.id, .int .i64 L[k].1.fund, .int .i64 L[k].1.src, .int .i64 L[k].1.num, .int .i64 L[k].1.copies, .int .i64 L[k].1.price, .int .i64 L[k].1.prom, .int .i64 L[k].1.paid, .int .i64 L[k].1.st, .int .i64 L[k].2]) rfl rfl rfl u44 sz3 zr3 rfl rfl rfl ?_
  intro p54
  refine x_append (e := 3) [(p54, Obj.cells ([Value.int .i64 L[k].1.id, .int .i64 L[k].1.fund, .int .i64 L[k].1.src, .int .i64 L[k].1.num, .int .i64 L[k].1.copies, .int .i64 L[k].1.price, .int .i64 L[k].1.prom, .int .i64 L[k].1.paid, .int .i64 L[k].1.st, .int .i64 L[k].2]).toArray 3 (0, 0)), (p6, Obj.cells (orC10 L[k].1 L[k].2).toArray 100)] (l2 := []) R (len := k * 10) (xs := ((encL (L.take k)).map (Value.int .i64))) rfl rfl rfl rfl (by simp only [List.append_nil]; rfl) hR u44 ap3 rfl rfl (m := 10) (news := [Value.int .i64 L[k].1.id, .int .i64 L[k].1.fund, .int .i64 L[k].1.src, .int .i64 L[k].1.num, .int .i64 L[k].1.copies, .int .i64 L[k].1.price, .int .i64 L[k].1.prom, .int .i64 L[k].1.paid, .int .i64 L[k].1.st, .int .i64 L[k].2]) (fun i hi => at_ownL (vs := [Value.int .i64 L[k].1.id, .int .i64 L[k].1.fund, .int .i64 L[k].1.src, .int .i64 L[k].1.num, .int .i64 L[k].1.copies, .int .i64 L[k].1.price, .int .i64 L[k].1.prom, .int .i64 L[k].1.paid, .int .i64 L[k].1.st, .int .i64 L[k].2]) (.head _) (by rw [Nat.zero_add]; exact List.getElem?_eq_getElem hi)) rfl Zx (by omega) fun R' hR' => ?_
  rw [List.append_nil]
  refine Xa ?_
  refine Ze (b_norm (Zt (Zr ?_)))
  refine Xv rfl (v_addi rfl rfl rfl Zo) ?_
  refine Xm ?_
  refine Ze ?_
  exact l_norm (x := (k, R)) (μ := fun q : Nat × RowS => L.length - q.1) (k + 1, R') ⟨hkl, by dsimp only; rw [encL, flat_snoc enI hkl, List.map_append, show (k + 1) * 10 = k * 10 + 10 by omega]; exact hR'⟩ (by simp only; omega) (by dsimp only; rw [show (k + 1) * 10 = k * 10 + 10 by omega]; exact Zu) (fun w1 h => h.less (((List.Sublist.refl _).cons _).cons _) (fun _ h => h))
 simp only [hb13, Qz, ne_eq] at hc13
 obtain rfl : k = L.length := by omega
 rw [List.take_length] at hR
 refine w_exit ?_
 refine t_exit ?_
 refine t_exit ?_
 refine b_hit ?_
 refine Zt (Zs (Zr ?_))
 refine Xm ?_
 refine x_callv (v := Value.string ⟨(intsG (encL L)).toArray⟩) rfl rfl rfl Tryz.func64 Zk rfl (fun w1 hw1 => c_Ints w1 (rowI_rd (D := fun _ => True) (e := 3) hR (encL_len L).symm (encL_in hen) hw1 (fun q hq => hq) (fun _ _ => trivial)) (by rw [encL_len]; omega)) ?_
 refine Xa ?_
 refine Ze (Zt (w_ret ?_))
 refine ret1 rfl rfl (fun w' hm => ⟨?_, hm.base (by simp)⟩)
 rfl
set_option maxHeartbeats 1000000 in
theorem g_EncF {pF mF : Nat} {es : Array MapEntry} {ck : Nat} {ms : List FM} (w : World) (hs : (ms.map (·.g.id)).Pairwise (· < ·)) (hn : ms.length ≤ 5000) (hen : ∀ f ∈ fsM ms, fgN f) (hC : MapC Tryz.prog 3 es ck (fMM ms)) (h1 : w.cell? ⟨pF, 0, none⟩ = some (.map (some mF))) (h2 : w.heap[mF]? = some (.map es ck)) (hX : ∀ x ∈ ms, ∀ i v, (fxM x)[i]? = some v → w.cell? ⟨x.p, i, none⟩ = some v) :
  Calls Tryz.prog 24 #[.pointer (some ⟨pF, 0, none⟩)] w fun e w' => e = .returned (.string ⟨(intsG (encF (fsM ms))).toArray⟩) ∧ Later w w' := by
 refine enter (vs := [.pointer (some ⟨pF, 0, none⟩)]) Tryz.func24 rfl Tryz.ntmps24 rfl ?_
 refine Zs (Zr ?_)
 refine Xa ?_
 refine Ze (Zt (Zs (Zs (Zr ?_))))
 refine Xm ?_
 refine Xv (v := Value.bool false) rfl (v_pnil (o := some ⟨pF, 0, none⟩) u35 rfl rfl) ?_
 refine Ze (Zt ?_)
 refine w_cond rfl (fun hc8 => ?_) (fun hc8 => ?_)
 ·cases hc8
 skip
 refine w_skip (Zt (Zs (Zr ?_)))
 refine Xa ?_
 refine Ze (Zt (Zs (Zs (Zr ?_))))
 refine Xm ?_
 refine Xv rfl (v_nilCheck rfl) ?_
 refine Xv rfl (v_fieldAddr (off' := 0) u125 rfl sz123 (by decide) rfl rfl) ?_
 refine Xv rfl (v_load u123 rfl rfl (at_ro (.head _) trivial h1)) ?_
 refine x_own (τ := Nat) (fun Bm => .func (.func 126) #[] #[.pointer (some ⟨Bm, 0, none⟩)]) (fun _ => True) (fun Bm => [(Bm, Obj.cells #[.map (some mF)] 123)]) rfl rfl rfl Tryz.func68 Zk rfl (fun w1 hw1 => (g_KeysF (some mF) w1).mono fun e w2 ⟨Bm, h1, h2, h3⟩ => ⟨Bm, h1, h2, trivial, (hw1.join2 h3).to (by simp)⟩) fun Bm _ => ?_
 have hk : keysIs (fMM ms) (ms.map (·.g.id)) := fMM_keys hs
 have hin : ∀ n ∈ (ms.map (·.g.id)), in64 n := fun n hn => by obtain ⟨x, hx, rfl⟩ := List.mem_map.1 hn; obtain ⟨⟨q1, q2⟩, _⟩ := hen x.g (List.mem_map_of_mem hx); unfold in64; omega
 refine x_call (R := fun v wa wb => sliceRd tyI (fun b => wa.heap.size ≤ b) wb v (ms.map (·.g.id))) rfl rfl rfl Tryz.func65 Zk rfl (fun w1 hw1 => (g_SortedF Bm mF w1 (at_ownL (vs := [.map (some mF)]) (.head _) rfl w1 hw1) (((hw1.base (by simp)).block mF (heap_lt h2)).trans h2) hC hk hs (by rw [List.length_map]; omega) hin).mono fun e w2 ⟨v, h1, h2, h3⟩ => ⟨v, h1, h2, h3⟩) fun v14 wa14 wb14 hm14 hl14 hR14 => ?_
 obtain ⟨A14, c14, rfl, _⟩ := id hR14
 have hlen : (ms.map (·.g.id)).length = ms.length := List.length_map _
 rw [hlen] at hR14 ⊢
 refine Xv rfl (v_len_slice u44 rfl) ?_
 refine Xm ?_
 refine Ze (Zt (w_block ?_))
 refine w_loop (σ := Nat × RowS) (fun x => x.1 ≤ ms.length ∧ rowOK 1 x.2 (x.1 * 5) (((ms.take x.1).flatMap fun x => fnI x.g).map (Value.int .i64))) (fun x => [(0, Value.pointer (some ⟨pF, 0, none⟩)), (3, rowV x.2 (x.1 * 5)), (14, Value.slice A14 ms.length c14), (15, Value.int .i64 (ms.length : Nat)), (16, Value.int .i64 (x.1 : Nat))]) (fun x => rowO 3 x.2) (fun x => [(wb14, notOwn [(Bm, Obj.cells #[.map (some mF)] 123)]), (w, fun _ => True)]) (fun x => ms.length - x.1) ((0, none)) (⟨Nat.zero_le _, rowOK_nil⟩) (l_start Zu (fun _ h => h.less (List.nil_sublist _) (fun _ h => h))) ?_
 rintro ⟨k, R⟩ ⟨hkL, hR⟩
 refine w_state ([(0, Value.pointer (some ⟨pF, 0, none⟩)), (3, rowV R (k * 5)), (14, Value.slice A14 ms.length c14), (15, Value.int .i64 (ms.length : Nat)), (16, Value.int .i64 (k : Nat))]) (rowO 3 R) ([(wb14, notOwn [(Bm, Obj.cells #[.map (some mF)] 123)]), (w, fun _ => True)]) ?_
 dsimp only at hkL hR
 refine Zs (Zr ?_)
 refine Xb rfl (v_lss rfl rfl) fun b17 hb17 => ?_
 refine Ze (Zt (Zs ?_))
 refine w_cond rfl (fun hc17 => ?_) (fun hc17 => ?_)
 ·simp only [hb17, Qz, ne_eq] at hc17
  have hkl : k < ms.length := by omega
  obtain ⟨b0, o0, hA0, hD0, hc0, hin0⟩ := int_at hR14 (k := k) (by rw [List.length_map]; exact hkl)
  have hlk := lkM_at hs hkl
  rw [List.getElem_map] at hc0 hin0
  have hXk := hX _ (List.getElem_mem hkl)
  refine w_skip (Zt (Zs (w_block (Zs (Zr ?_)))))
  refine Xv rfl (v_indexAddr u44 sz3 (congrArg (fun A => some (Value.slice A ms.length c14)) hA0) rfl Zo rfl) ?_
  refine Xv rfl (v_load u3 rfl rfl (at_ro (.head _) (fun q hq e => by rw [List.mem_singleton.1 hq] at e; exact absurd (e ▸ hm14.lt (.head _)) (by omega)) (by rw [Nat.mul_one]; exact hc0))) ?_
  refine Xa ?_
  refine Ze (Zt (Zs (Zr ?_)))
  refine Xm ?_
  refine Xv rfl (v_nilCheck rfl) ?_
  refine Xv rfl (v_fieldAddr (off' := 0) u125 rfl sz123 (by decide) rfl rfl) ?_
  refine Xv rfl (v_load u123 rfl rfl (at_ro (.tail _ (.head _)) trivial h1)) ?_
  refine Xm ?_
  refine Xv (v := Value.pointer (some ⟨ms[k].p, 0, none⟩)) rfl (v_lookupH u123 (Maps.int_keyed u3) zr126 rfl rfl (Maps.keyOf_int_mk u3 (wf_in hin0)) (map_ro (.tail _ (.head _)) trivial h2) hC.f (by rw [fMM_eq, hlk]; rfl)) ?_
  refine Xa ?_
  refine Ze (Zt ?_)
  refine rg_draw 27 [(true, 0), (true, 1), (true, 2), (true, 3), (true, 4), (true, 5), (true, 6), (true, 7), (true, 8), (true, 9), (true, 10), (true, 11), (true, 12), (true, 13), (true, 14), (true, 15), (true, 16), (true, 17), (true, 18), (true, 19), (true, 20), (true, 21), (true, 22), (true, 23), (true, 24), (true, 25), (false, 26)] Zk Zk ?_
  refine Xm ?_
  refine Xm ?_
  refine Xv rfl (v_nilCheck rfl) ?_
  refine Xv rfl (v_fieldAddr u130 rfl sz71 (by decide) rfl rfl) ?_
  refine Xv rfl (v_fieldAddr u71 rfl sz3 (by decide) rfl rfl) ?_
  refine Xv rfl (v_load u3 rfl rfl (at_ro (.tail _ (.head _)) trivial (hXk 0 _ rfl))) ?_
  refine Xm ?_
  refine Xv rfl (v_nilCheck rfl) ?_
  refine Xv rfl (v_fieldAddr u130 rfl sz71 (by decide) rfl rfl) ?_
  refine Xv rfl (v_fieldAddr u71 rfl sz3 (by decide) rfl rfl) ?_
  refine Xv rfl (v_load u3 rfl rfl (at_ro (.tail _ (.head _)) trivial (hXk 1 _ rfl))) ?_
  refine Xm ?_
  refine Xv rfl (v_nilCheck rfl) ?_
  refine Xv rfl (v_fieldAddr u130 rfl sz71 (by decide) rfl rfl) ?_
  refine Xv rfl (v_fieldAddr u71 rfl sz3 (by decide) rfl rfl) ?_
  refine Xv rfl (v_load u3 rfl rfl (at_ro (.tail _ (.head _)) trivial (hXk 2 _ rfl))) ?_
  refine Xm ?_
  refine Xv rfl (v_nilCheck rfl) ?_
  refine Xv rfl (v_fieldAddr u130 rfl sz71 (by decide) rfl rfl) ?_
  refine Xv rfl (v_fieldAddr u71 rfl sz3 (by decide) rfl rfl) ?_
  refine Xv rfl (v_load u3 rfl rfl (at_ro (.tail _ (.head _)) trivial (hXk 3 _ rfl))) ?_
  refine Xm ?_
  refine Xv rfl (v_nilCheck rfl) ?_
  refine Xv rfl (v_fieldAddr u130 rfl sz71 (by decide) rfl rfl) ?_
  refine Xv rfl (v_fieldAddr u71 rfl sz3 (by decide) rfl rfl) ?_
  refine Xv rfl (v_load u3 rfl rfl (at_ro (.tail _ (.head _)) trivial (hXk 4 _ rfl))) ?_
  refine x_buildSliceL (cs := [Value.int .i64 ms[k].g.id, .int .i64 ms[k].g.par, .int .i64 ms[k].g.s.al, .int .i64 ms[k].g.s.sp, .int .i64 ms[k].g.s.en]) rfl rfl rfl u44 sz3 zr3 rfl rfl rfl ?_
  intro p52
  refine x_append (e := 3) [(p52, Obj.cells ([Value.int .i64 ms[k].g.id, .int .i64 ms[k].g.par, .int .i64 ms[k].g.s.al, .int .i64 ms[k].g.s.sp, .int .i64 ms[k].g.s.en]).toArray 3 (0, 0))] (l2 := []) R (len := k * 5) (xs := (((ms.take k).flatMap fun x => fnI x.g).map (Value.int .i64))) rfl rfl rfl rfl (by simp only [List.append_nil]; rfl) hR u44 ap3 rfl rfl (m := 5) (news := [Value.int .i64 ms[k].g.id, .int .i64 ms[k].g.par, .int .i64 ms[k].g.s.al, .int .i64 ms[k].g.s.sp, .int .i64 ms[k].g.s.en]) (fun i hi => at_ownL (vs := [Value.int .i64 ms[k].g.id, .int .i64 ms[k].g.par, .int .i64 ms[k].g.s.al, .int .i64 ms[k].g.s.sp, .int .i64 ms[k].g.s.en]) (.head _) (by rw [Nat.zero_add]; exact List.getElem?_eq_getElem hi)) rfl Zx (by omega) fun R' hR' => ?_
  rw [List.append_nil]
  refine Xa ?_
  refine Ze (b_norm (Zt (Zr ?_)))
  refine Xv rfl (v_addi rfl rfl rfl Zo) ?_
  refine Xm ?_
  refine Ze ?_
  exact l_norm (x := (k, R)) (μ := fun q : Nat × RowS => ms.length - q.1) (k + 1, R') ⟨hkl, by dsimp only; rw [flat_snoc (fun x : FM => fnI x.g) hkl, List.map_append, show (k + 1) * 5 = k * 5 + 5 by omega]; exact hR'⟩ (by simp only; omega) (by dsimp only; rw [show (k + 1) * 5 = k * 5 + 5 by omega]; exact Zu) (fun w1 h => h.less ((List.Sublist.refl _).cons _) (fun _ h => h))
 simp only [hb17, Qz, ne_eq] at hc17
 obtain rfl : k = ms.length := by omega
 rw [List.take_length] at hR
 have hEF : (ms.flatMap fun x => fnI x.g) = encF (fsM ms) := by unfold encF fsM; rw [List.flatMap_map]
 rw [hEF] at hR
 have hFl : (encF (fsM ms)).length = ms.length * 5 := by rw [encF_len]; unfold fsM; rw [List.length_map]
 refine w_exit ?_
 refine t_exit ?_
 refine t_exit ?_
 refine b_hit ?_
 refine Zt (Zs (Zr ?_))
 refine Xm ?_
 refine x_callv (v := Value.string ⟨(intsG (encF (fsM ms))).toArray⟩) rfl rfl rfl Tryz.func64 Zk rfl (fun w1 hw1 => c_Ints w1 (rowI_rd (D := fun _ => True) (e := 3) hR hFl.symm (encF_in hen) hw1 (fun q hq => hq) (fun _ _ => trivial)) (by rw [hFl]; omega)) ?_
 refine Xa ?_
 refine Ze (Zt (w_ret ?_))
 refine ret1 rfl rfl (fun w' hm => ⟨?_, hm.base (by simp)⟩)
 rfl
open Go.RowKit Go.PK
theorem g_Ord1 {pO mO ckO : Nat} {esO : Array MapEntry} {L : List EN} {id : Int} (w : World) (h1 : w.cell? ⟨pO, 2, none⟩ = some (.map (some mO))) (h2 : w.heap[mO]? = some (.map esO ckO)) (hO : MapC Tryz.prog 3 esO ckO (fOL L)) (hid : in64 id) {x : PK.Ord} {first : Int} (hl : lkL L id = some (x, first)) :
  Calls Tryz.prog 11 #[.pointer (some ⟨pO, 0, none⟩), .int .i64 id] w fun e w' => e = .returned (.tuple #[.agg x.cells.toArray, .bool true]) ∧ Later w w' := by
 refine enter (vs := [.pointer (some ⟨pO, 0, none⟩), .int .i64 id]) Tryz.func11 rfl Tryz.ntmps11 rfl ?_
 refine Zs (Zr ?_)
 refine x_alloc rfl rfl rfl zr25 ?_
 intro p4
 refine Xa ?_
 refine Ze (Zt (Zs (Zs (Zr ?_))))
 refine Xm ?_
 refine Xv (v := Value.bool false) rfl (v_pnil (o := some ⟨pO, 0, none⟩) u27 rfl rfl) ?_
 refine Ze (Zt ?_)
 refine w_cond rfl (fun hc9 => ?_) (fun hc9 => ?_)
 ·cases hc9
 skip
 refine w_skip (Zt (Zs (Zr ?_)))
 refine Xm ?_
 refine Xv rfl (v_nilCheck rfl) ?_
 refine Xv rfl (v_fieldAddr (off' := 2) u38 rfl sz36 (by decide) rfl rfl) ?_
 refine Xv rfl (v_load u36 rfl rfl (at_ro (.head _) trivial h1)) ?_
 refine Xm ?_
 refine Xv (v := Value.tuple #[orV x first, .bool true]) rfl (v_lookup2H u36 (Maps.int_keyed u3) zr100 rfl rfl (Maps.keyOf_int_mk u3 (wf_in hid)) (map_ro (.head _) trivial h2) hO.f (by rw [fOL_at, hl]; rfl) (by rw [fOL_at, hl]; rfl)) ?_
 refine Xm ?_
 refine Xv rfl (v_extract rfl rfl) ?_
 refine Xb rfl (v_extract rfl rfl) fun b19 hb19 => ?_
 refine x_alloc rfl rfl rfl zr100 ?_
 intro p6
 refine x_store0 [] rfl rfl rfl rfl sz100 rfl rfl ?_
 refine Xa ?_
 refine Ze (Zt (Zs (Zr ?_)))
 refine Xv rfl (v_fieldAddr (off' := 0) u100 rfl sz25 (by decide) rfl rfl) ?_
 refine Xv rfl (v_loadN (vs := x.cells) u25 rfl sz25 rfl (fun i hi => at_ownL (vs := orC10 x first) (.head _) (by match i, hi with | 0, _ => rfl | 1, _ => rfl | 2, _ => rfl | 3, _ => rfl | 4, _ => rfl | 5, _ => rfl | 6, _ => rfl | 7, _ => rfl | 8, _ => rfl))) ?_
 refine Xm ?_
 refine x_store0 [(p6, Obj.cells (orC10 x first).toArray 100)] rfl rfl rfl rfl sz25 rfl rfl ?_
 refine Xa ?_
 refine Ze (Zt (w_ret ?_))
 obtain rfl : b19 = true := hb19
 exact retct (cs := x.cells.toArray) rfl rfl rfl (.tail _ (.head _)) u25 rfl sz25 (fun w' hm => ⟨rfl, hm.base (by simp)⟩)
theorem g_Ord0 {pO mO ckO : Nat} {esO : Array MapEntry} {L : List EN} {id : Int} (w : World) (h1 : w.cell? ⟨pO, 2, none⟩ = some (.map (some mO))) (h2 : w.heap[mO]? = some (.map esO ckO)) (hO : MapC Tryz.prog 3 esO ckO (fOL L)) (hid : in64 id) (hl : lkL L id = none) :
  Calls Tryz.prog 11 #[.pointer (some ⟨pO, 0, none⟩), .int .i64 id] w fun e w' => e = .returned (.tuple #[.agg zeroO.cells.toArray, .bool false]) ∧ Later w w' := by
 refine enter (vs := [.pointer (some ⟨pO, 0, none⟩), .int .i64 id]) Tryz.func11 rfl Tryz.ntmps11 rfl ?_
 refine Zs (Zr ?_)
 refine x_alloc rfl rfl rfl zr25 ?_
 intro p4
 refine Xa ?_
 refine Ze (Zt (Zs (Zs (Zr ?_))))
 refine Xm ?_
 refine Xv (v := Value.bool false) rfl (v_pnil (o := some ⟨pO, 0, none⟩) u27 rfl rfl) ?_
 refine Ze (Zt ?_)
 refine w_cond rfl (fun hc9 => ?_) (fun hc9 => ?_)
 ·cases hc9
 skip
 refine w_skip (Zt (Zs (Zr ?_)))
 refine Xm ?_
 refine Xv rfl (v_nilCheck rfl) ?_
 refine Xv rfl (v_fieldAddr (off' := 2) u38 rfl sz36 (by decide) rfl rfl) ?_
 refine Xv rfl (v_load u36 rfl rfl (at_ro (.head _) trivial h1)) ?_
 refine Xm ?_
 refine Xv (v := Value.tuple #[.agg (orC10 zeroO 0).toArray, .bool false]) rfl (v_lookup2H u36 (Maps.int_keyed u3) zr100 rfl rfl (Maps.keyOf_int_mk u3 (wf_in hid)) (map_ro (.head _) trivial h2) hO.f (by rw [fOL_at, hl]; rfl) (by rw [fOL_at, hl]; rfl)) ?_
 refine Xm ?_
 refine Xv rfl (v_extract rfl rfl) ?_
 refine Xb rfl (v_extract rfl rfl) fun b19 hb19 => ?_
 refine x_alloc rfl rfl rfl zr100 ?_
 intro p6
 refine x_store0 [] rfl rfl rfl rfl sz100 rfl rfl ?_
 refine Xa ?_
 refine Ze (Zt (Zs (Zr ?_)))
 refine Xv rfl (v_fieldAddr (off' := 0) u100 rfl sz25 (by decide) rfl rfl) ?_
 refine Xv rfl (v_loadN (vs := zeroO.cells) u25 rfl sz25 rfl (fun i hi => at_ownL (vs := orC10 zeroO 0) (.head _) (by match i, hi with | 0, _ => rfl | 1, _ => rfl | 2, _ => rfl | 3, _ => rfl | 4, _ => rfl | 5, _ => rfl | 6, _ => rfl | 7, _ => rfl | 8, _ => rfl))) ?_
 refine Xm ?_
 refine x_store0 [(p6, Obj.cells (orC10 zeroO 0).toArray 100)] rfl rfl rfl rfl sz25 rfl rfl ?_
 refine Xa ?_
 refine Ze (Zt (w_ret ?_))
 obtain rfl : b19 = false := hb19
 exact retct (cs := zeroO.cells.toArray) rfl rfl rfl (.tail _ (.head _)) u25 rfl sz25 (fun w' hm => ⟨rfl, hm.base (by simp)⟩)
theorem g_PlaceW {w : World} {L : List (Nat × Obj)} {ro : List Snap} {mF pF pO mO ckF ckO : Nat} {esF esO : Array MapEntry} {money : Int} {ms : List FM} {s : SG} (hm : Mem w ((pO, Obj.cells (orC pF s.tol mO).toArray 38) :: (mO, Obj.map esO ckO) :: (mF, Obj.map esF ckF) :: (pF, Obj.cells (fnC mF money).toArray 125) :: (FB 130 ms ++ L)) ro) (hF : MapF Tryz.prog 3 esF (fMM ms)) (hO : MapC Tryz.prog 3 esO ckO (fOL s.L)) (hfs : fsM ms = s.fs) (hok : SGok s) {ws : World} (hws : (ws, fun _ => True) ∈ ro) (hL : LD ws) (y : PK.Ord) (hy : y.okA) (hw : writB y = false) :
  Calls Tryz.prog 12 #[.pointer (some ⟨pO, 0, none⟩), .agg y.cells.toArray] w fun e w' => e = .returned (.int .i64 (placeG s y).1) ∧ ∃ q : Array MapEntry × Nat × List FM, (MapC Tryz.prog 3 q.1 q.2.1 (fOL (placeG s y).2.L) ∧ fsM q.2.2 = (placeG s y).2.fs ∧ fMM q.2.2 = fMM ms ∧ (placeG s y).2.tol = s.tol) ∧ Mem w' ((pO, Obj.cells (orC pF s.tol mO).toArray 38) :: (mO, Obj.map q.1 q.2.1) :: (mF, Obj.map esF ckF) :: (pF, Obj.cells (fnC mF money).toArray 125) :: (FB 130 q.2.2 ++ L)) ro := by
 refine enter_in hm (vs := [.pointer (some ⟨pO, 0, none⟩), .agg y.cells.toArray]) Tryz.func12 rfl Tryz.ntmps12 rfl ?_
 refine Zs (Zr ?_)
 refine x_box rfl rfl rfl rfl ?_
 intro p3
 refine Xa ?_
 refine Ze (Zt (Zs (Zs (Zr ?_))))
 refine Xm ?_
 refine Xb rfl (v_pnil (o := some ⟨pO, 0, none⟩) u27 rfl rfl) fun b9 hb9 => ?_
 refine Xm ?_
 refine x_if [] rfl rfl rfl rfl rfl (v := Value.agg y.cells.toArray) (fun hg => by obtain ⟨hg0, _⟩ := hg; subst hg0; (try simp only [Qy]); exact v_load_blk (b := p3) (e := 25) (fz := (0, 0)) (cs := y.cells.toArray) u25 rfl rfl (.head _) sz25) ?_
 refine x_call_ifb [] (c := writB y) rfl rfl rfl rfl rfl Tryz.func51 Zk (fun hg => by obtain ⟨hg0, _⟩ := hg; subst hg0; (try simp only [Qy]); refine ⟨_, rfl, ?_⟩; exact fun w1 hw1 => c_wrt y w1 hy (hL.later (hw1.base (by first | exact hws | exact .tail _ hws | exact .tail _ (.tail _ hws) | exact .tail _ (.tail _ (.tail _ hws)))))) fun b12 hb12 => ?_
 refine Xj rfl rfl rfl (fun hg0 => by subst hg0; (try simp only [Qy]); exact v_not rfl) fun b13 hb13 => ?_
 refine Xb rfl (v_or rfl rfl) fun b14 hb14 => ?_
 refine Ze (Zt ?_)
 refine w_cond rfl (fun hc14 => ?_) (fun hc14 => ?_)
 ·simp only [hb14, hb13, Qz, ne_eq] at hc14
  refine Zs (Zr ?_)
  refine Xa ?_
  refine Ze (Zt (w_ret (t_ret ?_)))
  refine ret1 rfl rfl (fun w' hm' => ?_)
  rw [show (placeG s y) = (1, s) from by unfold placeG; rw [if_pos hw]]
  exact ⟨rfl, (esO, ckO, ms), ⟨hO, hfs, rfl, rfl⟩, hm'.less (List.sublist_cons_self _ _) (fun _ h => h)⟩
 exfalso
 rw [hb14, hb13, hb12, hb9, hw] at hc14
 revert hc14; simp
theorem g_PlaceT {w : World} {L : List (Nat × Obj)} {ro : List Snap} {mF pF pO mO ckF ckO : Nat} {esF esO : Array MapEntry} {money : Int} {ms : List FM} {s : SG} (hm : Mem w ((pO, Obj.cells (orC pF s.tol mO).toArray 38) :: (mO, Obj.map esO ckO) :: (mF, Obj.map esF ckF) :: (pF, Obj.cells (fnC mF money).toArray 125) :: (FB 130 ms ++ L)) ro) (hF : MapF Tryz.prog 3 esF (fMM ms)) (hO : MapC Tryz.prog 3 esO ckO (fOL s.L)) (hfs : fsM ms = s.fs) (hok : SGok s) {ws : World} (hws : (ws, fun _ => True) ∈ ro) (hL : LD ws) (y : PK.Ord) (hy : y.okA) {x : PK.Ord} {first : Int} (hw : writB y = true) (hl : lkL s.L y.id = some (x, first)) :
  Calls Tryz.prog 12 #[.pointer (some ⟨pO, 0, none⟩), .agg y.cells.toArray] w fun e w' => e = .returned (.int .i64 (placeG s y).1) ∧ ∃ q : Array MapEntry × Nat × List FM, (MapC Tryz.prog 3 q.1 q.2.1 (fOL (placeG s y).2.L) ∧ fsM q.2.2 = (placeG s y).2.fs ∧ fMM q.2.2 = fMM ms ∧ (placeG s y).2.tol = s.tol) ∧ Mem w' ((pO, Obj.cells (orC pF s.tol mO).toArray 38) :: (mO, Obj.map q.1 q.2.1) :: (mF, Obj.map esF ckF) :: (pF, Obj.cells (fnC mF money).toArray 125) :: (FB 130 q.2.2 ++ L)) ro := by
 refine enter_in hm (vs := [.pointer (some ⟨pO, 0, none⟩), .agg y.cells.toArray]) Tryz.func12 rfl Tryz.ntmps12 rfl ?_
 refine Zs (Zr ?_)
 refine x_box rfl rfl rfl rfl ?_
 intro p3
 refine Xa ?_
 refine Ze (Zt (Zs (Zs (Zr ?_))))
 refine Xm ?_
 refine Xb rfl (v_pnil (o := some ⟨pO, 0, none⟩) u27 rfl rfl) fun b9 hb9 => ?_
 refine Xm ?_
 refine x_if [] rfl rfl rfl rfl rfl (v := Value.agg y.cells.toArray) (fun hg => by obtain ⟨hg0, _⟩ := hg; subst hg0; (try simp only [Qy]); exact v_load_blk (b := p3) (e := 25) (fz := (0, 0)) (cs := y.cells.toArray) u25 rfl rfl (.head _) sz25) ?_
 refine x_call_ifb [] (c := writB y) rfl rfl rfl rfl rfl Tryz.func51 Zk (fun hg => by obtain ⟨hg0, _⟩ := hg; subst hg0; (try simp only [Qy]); refine ⟨_, rfl, ?_⟩; exact fun w1 hw1 => c_wrt y w1 hy (hL.later (hw1.base (by first | exact hws | exact .tail _ hws | exact .tail _ (.tail _ hws) | exact .tail _ (.tail _ (.tail _ hws)))))) fun b12 hb12 => ?_
 refine Xj rfl rfl rfl (fun hg0 => by subst hg0; (try simp only [Qy]); exact v_not rfl) fun b13 hb13 => ?_
 refine Xb rfl (v_or rfl rfl) fun b14 hb14 => ?_
 refine Ze (Zt ?_)
 refine w_cond rfl (fun hc14 => ?_) (fun hc14 => ?_)
 ·exfalso
  rw [hb14, hb13, hb12, hb9, hw] at hc14
  revert hc14; simp
 simp only [hb14, hb13, Qz, ne_eq] at hc14
 refine w_skip (Zt (Zs (Zs ?_)))
 refine rg_inv ((p3, Obj.cells y.cells.toArray 25) :: (pO, Obj.cells (orC pF s.tol mO).toArray 38) :: (mO, Obj.map esO ckO) :: (mF, Obj.map esF ckF) :: (pF, Obj.cells (fnC mF money).toArray 125) :: (FB 130 ms ++ L)) 13 (.flt 0 (.flt 1 (.flt 2 (.flt 3 (.flt 4 (.flt 5 (.flt 6 (.flt 7 (.flt 8 (.flt 9 (.gr 10 (.gr 11 (.flt 12 .done) .nil) .nil))))))))))) (.refl _) Zk Zk ?_
 refine j_val rfl rfl (v_move rfl) ?_
 refine j_val rfl rfl (v_nilCheck rfl) ?_
 refine j_val rfl rfl (v_fieldAddr (off' := 2) u38 rfl sz36 (by decide) rfl rfl) ?_
 refine j_val rfl rfl (v_load u36 rfl rfl (at_ownL (vs := orC pF s.tol mO) (.tail _ (.head _)) rfl)) ?_
 refine j_val rfl rfl (v_fieldAddr (off' := 0) u25 rfl sz3 (by decide) rfl rfl) ?_
 refine j_val rfl rfl (v_load u3 rfl rfl (at_ownL (vs := y.cells) (.head _) rfl)) ?_
 refine j_val (v := Value.tuple #[orV x first, .bool true]) rfl rfl (v_lookup2H u36 (Maps.int_keyed u3) zr100 rfl rfl (Maps.keyOf_int_mk u3 (wf_in hy.1.1)) (map_own (.tail _ (.tail _ (.head _)))) hO.f (by rw [fOL_at, hl]; rfl) (by rw [fOL_at, hl]; rfl)) ?_
 refine j_val rfl rfl (v_move rfl) ?_
 refine j_val rfl rfl (v_extract rfl rfl) ?_
 refine j_bool rfl rfl (v_extract rfl rfl) fun b24 hb24 => ?_
 refine j_gr ?_ j_nil
 refine x_alloc rfl rfl rfl zr100 ?_
 intro p5
 refine Ze ?_
 refine j_end (List.sublist_cons_self _ _) ?_
 refine j_gr ?_ j_nil
 refine x_store0 [] rfl rfl rfl rfl sz100 rfl rfl ?_
 refine Ze ?_
 refine j_end (List.sublist_cons_self _ _) ?_
 refine j_val rfl rfl (v_assign rfl) ?_
 refine j_done ?_
 refine Ze (Zt (Zs (Zr ?_)))
 refine Xm ?_
 refine Ze (Zt ?_)
 refine w_cond rfl (fun hc25 => ?_) (fun hc25 => ?_)
 ·simp only [hb24, Qz, ne_eq] at hc25
  refine Zs (Zr ?_)
  refine Xa ?_
  refine Ze (Zt (w_ret (t_ret ?_)))
  refine ret1 rfl rfl (fun w' hm' => ?_)
  rw [show (placeG s y) = (22, s) from by unfold placeG; rw [if_neg (by rw [hw]; decide), if_pos (by rw [hl]; rfl)]]
  exact ⟨rfl, (esO, ckO, ms), ⟨hO, hfs, rfl, rfl⟩, hm'.less ((List.sublist_cons_self _ _).trans (List.sublist_cons_self _ _)) (fun _ h => h)⟩
 exfalso
 rw [hb24] at hc25
 revert hc25; simp
set_option maxHeartbeats 1000000 in
theorem g_PlaceF {w : World} {L : List (Nat × Obj)} {ro : List Snap} {mF pF pO mO ckF ckO : Nat} {esF esO : Array MapEntry} {money : Int} {ms : List FM} {s : SG} (hm : Mem w ((pO, Obj.cells (orC pF s.tol mO).toArray 38) :: (mO, Obj.map esO ckO) :: (mF, Obj.map esF ckF) :: (pF, Obj.cells (fnC mF money).toArray 125) :: (FB 130 ms ++ L)) ro) (hF : MapF Tryz.prog 3 esF (fMM ms)) (hO : MapC Tryz.prog 3 esO ckO (fOL s.L)) (hfs : fsM ms = s.fs) (hok : SGok s) {ws : World} (hws : (ws, fun _ => True) ∈ ro) (hL : LD ws) (y : PK.Ord) (hy : y.okA) (hw : writB y = true) (hl : lkL s.L y.id = none) (hlen : s.L.length ≤ 4000) :
  Calls Tryz.prog 12 #[.pointer (some ⟨pO, 0, none⟩), .agg y.cells.toArray] w fun e w' => e = .returned (.int .i64 (placeG s y).1) ∧ ∃ q : Array MapEntry × Nat × List FM, (MapC Tryz.prog 3 q.1 q.2.1 (fOL (placeG s y).2.L) ∧ fsM q.2.2 = (placeG s y).2.fs ∧ fMM q.2.2 = fMM ms ∧ (placeG s y).2.tol = s.tol) ∧ Mem w' ((pO, Obj.cells (orC pF s.tol mO).toArray 38) :: (mO, Obj.map q.1 q.2.1) :: (mF, Obj.map esF ckF) :: (pF, Obj.cells (fnC mF money).toArray 125) :: (FB 130 q.2.2 ++ L)) ro := by
 have hfk : ∀ f ∈ fsM ms, fundOK f.s := by rw [hfs]; exact hok.fs
 have hwo := (writB_iff y).1 hw
 unfold wrO at hwo
 obtain ⟨⟨y1, y2⟩, ⟨y3, y4⟩, _, _, ⟨y5, y6⟩, y7, y8⟩ := hwo
 obtain ⟨⟨k1, k2⟩, _⟩ := ln_rng (c := y.copies) (p := y.price) (q := y.price) ⟨y7, y8⟩ ⟨y5, y6⟩ ⟨y5, y6⟩
 have hsz : esO.size = s.L.length := (hO.size (fOL_keys hok.srt)).trans (List.length_map _)
 refine enter_in hm (vs := [.pointer (some ⟨pO, 0, none⟩), .agg y.cells.toArray]) Tryz.func12 rfl Tryz.ntmps12 rfl ?_
 refine Zs (Zr ?_)
 refine x_box rfl rfl rfl rfl ?_
 intro p3
 refine Xa ?_
 refine Ze (Zt (Zs (Zs (Zr ?_))))
 refine Xm ?_
 refine Xb rfl (v_pnil (o := some ⟨pO, 0, none⟩) u27 rfl rfl) fun b9 hb9 => ?_
 refine Xm ?_
 refine x_if [] rfl rfl rfl rfl rfl (v := Value.agg y.cells.toArray) (fun hg => by obtain ⟨hg0, _⟩ := hg; subst hg0; (try simp only [Qy]); exact v_load_blk (b := p3) (e := 25) (fz := (0, 0)) (cs := y.cells.toArray) u25 rfl rfl (.head _) sz25) ?_
 refine x_call_ifb [] (c := writB y) rfl rfl rfl rfl rfl Tryz.func51 Zk (fun hg => by obtain ⟨hg0, _⟩ := hg; subst hg0; (try simp only [Qy]); refine ⟨_, rfl, ?_⟩; exact fun w1 hw1 => c_wrt y w1 hy (hL.later (hw1.base (by first | exact hws | exact .tail _ hws | exact .tail _ (.tail _ hws) | exact .tail _ (.tail _ (.tail _ hws)))))) fun b12 hb12 => ?_
 refine Xj rfl rfl rfl (fun hg0 => by subst hg0; (try simp only [Qy]); exact v_not rfl) fun b13 hb13 => ?_
 refine Xb rfl (v_or rfl rfl) fun b14 hb14 => ?_
 refine Ze (Zt ?_)
 refine w_cond rfl (fun hc14 => ?_) (fun hc14 => ?_)
 ·exfalso
  rw [hb14, hb13, hb12, hb9, hw] at hc14
  revert hc14; simp
 simp only [hb14, hb13, Qz, ne_eq] at hc14
 refine w_skip (Zt (Zs (Zs ?_)))
 refine rg_inv ((p3, Obj.cells y.cells.toArray 25) :: (pO, Obj.cells (orC pF s.tol mO).toArray 38) :: (mO, Obj.map esO ckO) :: (mF, Obj.map esF ckF) :: (pF, Obj.cells (fnC mF money).toArray 125) :: (FB 130 ms ++ L)) 13 (.flt 0 (.flt 1 (.flt 2 (.flt 3 (.flt 4 (.flt 5 (.flt 6 (.flt 7 (.flt 8 (.flt 9 (.gr 10 (.gr 11 (.flt 12 .done) .nil) .nil))))))))))) (.refl _) Zk Zk ?_
 refine j_val rfl rfl (v_move rfl) ?_
 refine j_val rfl rfl (v_nilCheck rfl) ?_
 refine j_val rfl rfl (v_fieldAddr (off' := 2) u38 rfl sz36 (by decide) rfl rfl) ?_
 refine j_val rfl rfl (v_load u36 rfl rfl (at_ownL (vs := orC pF s.tol mO) (.tail _ (.head _)) rfl)) ?_
 refine j_val rfl rfl (v_fieldAddr (off' := 0) u25 rfl sz3 (by decide) rfl rfl) ?_
 refine j_val rfl rfl (v_load u3 rfl rfl (at_ownL (vs := y.cells) (.head _) rfl)) ?_
 refine j_val (v := Value.tuple #[.agg (orC10 zeroO 0).toArray, .bool false]) rfl rfl (v_lookup2H u36 (Maps.int_keyed u3) zr100 rfl rfl (Maps.keyOf_int_mk u3 (wf_in hy.1.1)) (map_own (.tail _ (.tail _ (.head _)))) hO.f (by rw [fOL_at, hl]; rfl) (by rw [fOL_at, hl]; rfl)) ?_
 refine j_val rfl rfl (v_move rfl) ?_
 refine j_val rfl rfl (v_extract rfl rfl) ?_
 refine j_bool rfl rfl (v_extract rfl rfl) fun b24 hb24 => ?_
 refine j_gr ?_ j_nil
 refine x_alloc rfl rfl rfl zr100 ?_
 intro p5
 refine Ze ?_
 refine j_end (List.sublist_cons_self _ _) ?_
 refine j_gr ?_ j_nil
 refine x_store0 [] rfl rfl rfl rfl sz100 rfl rfl ?_
 refine Ze ?_
 refine j_end (List.sublist_cons_self _ _) ?_
 refine j_val rfl rfl (v_assign rfl) ?_
 refine j_done ?_
 refine Ze (Zt (Zs (Zr ?_)))
 refine Xm ?_
 refine Ze (Zt ?_)
 refine w_cond rfl (fun hc25 => ?_) (fun hc25 => ?_)
 ·exfalso
  rw [hb24] at hc25
  revert hc25; simp
 simp only [hb24, Qz, ne_eq] at hc25
 refine w_skip (Zt (Zs (Zs (Zr ?_))))
 refine Xm ?_
 refine Xv rfl (v_nilCheck rfl) ?_
 refine Xv rfl (v_fieldAddr (off' := 2) u38 rfl sz36 (by decide) rfl rfl) ?_
 refine Xv rfl (v_load u36 rfl rfl (at_ownL (vs := orC pF s.tol mO) (.tail _ (.tail _ (.head _))) rfl)) ?_
 refine Xv (v := Value.int .i64 (s.L.length : Nat)) rfl (by rw [← hsz]; exact v_len_map (es := esO) (clock := ckO) u36 rfl (.tail _ (.tail _ (.tail _ (.head _))))) ?_
 refine Xb rfl (v_geq rfl rfl) fun b31 hb31 => ?_
 refine Ze (Zt ?_)
 refine w_cond rfl (fun hc31 => ?_) (fun hc31 => ?_)
 ·exfalso
  rw [hb31] at hc31
  have := of_decide_eq_true hc31
  omega
 simp only [hb31, Qz, ne_eq] at hc31
 refine w_skip (Zt (Zs (Zs ?_)))
 refine rg_draw 11 [(true, 0), (true, 1), (true, 2), (true, 3), (true, 4), (true, 5), (true, 6), (true, 7), (true, 8), (true, 9), (true, 10)] Zk Zk ?_
 refine Xm ?_
 refine Xv rfl (v_nilCheck rfl) ?_
 refine Xv rfl (v_fieldAddr (off' := 0) u38 rfl sz35 (by decide) rfl rfl) ?_
 refine Xv rfl (v_load u35 rfl rfl (at_ownL (vs := orC pF s.tol mO) (.tail _ (.tail _ (.head _))) rfl)) ?_
 refine Xv rfl (v_fieldAddr (off' := 1) u25 rfl sz3 (by decide) rfl rfl) ?_
 refine Xv rfl (v_load u3 rfl rfl (at_ownL (vs := y.cells) (.tail _ (.head _)) rfl)) ?_
 refine Xv rfl (v_fieldAddr (off' := 4) u25 rfl sz3 (by decide) rfl rfl) ?_
 refine Xv rfl (v_load u3 rfl rfl (at_ownL (vs := y.cells) (.tail _ (.head _)) rfl)) ?_
 refine Xv rfl (v_fieldAddr (off' := 5) u25 rfl sz3 (by decide) rfl rfl) ?_
 refine Xv rfl (v_load u3 rfl rfl (at_ownL (vs := y.cells) (.tail _ (.head _)) rfl)) ?_
 refine Xv rfl (v_muli rfl rfl rfl Zo) ?_
 refine x_turnf (τ := List FM) (v := Value.int .i64 (postG encP (fsM ms) y.fund ((y.copies * y.price))).1) (fun q => fsM q = (postG encP (fsM ms) y.fund ((y.copies * y.price))).2 ∧ fMM q = fMM ms) (fun q => (p5, Obj.cells (orC10 zeroO 0).toArray 100) :: (p3, Obj.cells y.cells.toArray 25) :: (pO, Obj.cells (orC pF s.tol mO).toArray 38) :: (mO, Obj.map esO ckO) :: (mF, Obj.map esF ckF) :: (pF, Obj.cells (fnC mF money).toArray 125) :: (FB 130 q ++ L)) rfl rfl Tryz.func52 Zk rfl (fun w1 hw1 => g_enc (l1 := [(p5, Obj.cells (orC10 zeroO 0).toArray 100), (p3, Obj.cells y.cells.toArray 25), (pO, Obj.cells (orC pF s.tol mO).toArray 38), (mO, Obj.map esO ckO), (mF, Obj.map esF ckF), (pF, Obj.cells (fnC mF money).toArray 125)]) (ms := ms) hw1 hF Zh Zh hfk (y.fund) (by unfold in64; omega) ((y.copies * y.price))) fun m43 hm43 => ?_
 refine Xa ?_
 refine Ze (Zt (Zs (Zr ?_)))
 refine Xm ?_
 refine Xb rfl (v_neq rfl rfl) fun b45 hb45 => ?_
 refine Ze (Zt ?_)
 refine w_cond rfl (fun hc45 => ?_) (fun hc45 => ?_)
 ·simp only [hb45, Qz, ne_eq] at hc45
  refine Zs (Zr ?_)
  refine Xm ?_
  refine Xa ?_
  refine Ze (Zt (w_ret (t_ret ?_)))
  refine ret1 rfl rfl (fun w' hm' => ?_)
  have hf1 : (postG encP (fsM ms) y.fund (y.copies * y.price)).2 = fsM ms := postG_f encP_f hc45
  rw [show (placeG s y) = ((postG encP (fsM ms) y.fund (y.copies * y.price)).1, s) from by unfold placeG; rw [if_neg (by rw [hw]; decide), if_neg (by rw [hl]; decide), ← hfs, if_pos hc45]]
  exact ⟨rfl, (esO, ckO, m43), ⟨hO, hm43.1.trans (hf1.trans hfs), hm43.2, rfl⟩, hm'.less ((List.sublist_cons_self _ _).trans (List.sublist_cons_self _ _)) (fun _ h => h)⟩
 simp only [hb45, Qz, ne_eq] at hc45
 refine w_skip (Zt (Zs (Zr ?_)))
 refine Xv rfl (v_fieldAddr (off' := 4) u25 rfl sz3 (by decide) rfl rfl) ?_
 refine Xv rfl (v_load u3 rfl rfl (at_ownL (vs := y.cells) (.tail _ (.head _)) rfl)) ?_
 refine Xv rfl (v_fieldAddr (off' := 6) u25 rfl sz3 (by decide) rfl rfl) ?_
 refine x_store (cs := y.cells) (off := 6) (e := 25) (l2 := (pO, Obj.cells (orC pF s.tol mO).toArray 38) :: (mO, Obj.map esO ckO) :: (mF, Obj.map esF ckF) :: (pF, Obj.cells (fnC mF money).toArray 125) :: (FB 130 m43 ++ L)) [(p5, Obj.cells (orC10 zeroO 0).toArray 100)] rfl rfl rfl rfl sz3 rfl (by show 7 ≤ 9; decide) ?_
 refine Xv rfl (v_fieldAddr (off' := 7) u25 rfl sz3 (by decide) rfl rfl) ?_
 refine x_store (cs := PK.Ord.cells { y with prom := y.copies }) (off := 7) (e := 25) (l2 := (pO, Obj.cells (orC pF s.tol mO).toArray 38) :: (mO, Obj.map esO ckO) :: (mF, Obj.map esF ckF) :: (pF, Obj.cells (fnC mF money).toArray 125) :: (FB 130 m43 ++ L)) [(p5, Obj.cells (orC10 zeroO 0).toArray 100)] rfl rfl rfl rfl sz3 rfl (by show 8 ≤ 9; decide) ?_
 refine Xv rfl (v_fieldAddr (off' := 8) u25 rfl sz3 (by decide) rfl rfl) ?_
 refine x_store (cs := PK.Ord.cells { y with prom := y.copies, paid := 0 }) (off := 8) (e := 25) (l2 := (pO, Obj.cells (orC pF s.tol mO).toArray 38) :: (mO, Obj.map esO ckO) :: (mF, Obj.map esF ckF) :: (pF, Obj.cells (fnC mF money).toArray 125) :: (FB 130 m43 ++ L)) [(p5, Obj.cells (orC10 zeroO 0).toArray 100)] rfl rfl rfl rfl sz3 rfl (by show 9 ≤ 9; decide) ?_
 refine Ze (Zt (Zs ?_))
 refine w_state _ ((p5, Obj.cells (orC10 zeroO 0).toArray 100) :: (p3, Obj.cells (placedO y).cells.toArray 25) :: (pO, Obj.cells (orC pF s.tol mO).toArray 38) :: (mO, Obj.map esO ckO) :: (mF, Obj.map esF ckF) :: (pF, Obj.cells (fnC mF money).toArray 125) :: (FB 130 m43 ++ L)) _ ?_
 refine Zr ?_
 refine Xm ?_
 refine Xv rfl (v_load_blk (e := 25) (fz := (0, 0)) (cs := (placedO y).cells.toArray) u25 rfl rfl (.tail _ (.head _)) sz25) ?_
 refine Xv rfl (v_fieldAddr (off' := 5) u25 rfl sz3 (by decide) rfl rfl) ?_
 refine Xv rfl (v_load u3 rfl rfl (at_ownL (vs := (placedO y).cells) (.tail _ (.head _)) rfl)) ?_
 refine Xv (v := Value.agg (orC10 (placedO y) y.price).toArray) rfl (v_buildL (cs := orC10 (placedO y) y.price) (places := [(0, 9), (9, 1)]) u100 zr100 Zk rfl rfl) ?_
 refine x_turnf (τ := Array MapEntry × Nat) (v := Value.tuple #[]) (fun q => MapC Tryz.prog 3 q.1 q.2 (fOL (insL s.L ((placedO y), y.price)))) (fun q => [(p5, Obj.cells (orC10 zeroO 0).toArray 100), (p3, Obj.cells (placedO y).cells.toArray 25)] ++ (pO, Obj.cells (orC pF s.tol mO).toArray 38) :: (mO, Obj.map q.1 q.2) :: (mF, Obj.map esF ckF) :: (pF, Obj.cells (fnC mF money).toArray 125) :: (FB 130 m43 ++ L)) rfl rfl Tryz.func53 Zk rfl (fun w1 hw1 => (g_put (l1 := [(p5, Obj.cells (orC10 zeroO 0).toArray 100), (p3, Obj.cells (placedO y).cells.toArray 25)]) (placedO y) y.price hw1 hO hy.1.1).mono fun e w2 ⟨h1, q, h2, h3⟩ => ⟨h1, q, by rw [← (fOL_ins (y := ((placedO y), y.price)) hl)]; exact h2, h3⟩) fun q57 hq57 => ?_
 refine Ze (Zt (Zs (Zr ?_)))
 refine Xa ?_
 refine Ze (Zt (w_ret ?_))
 refine ret1 rfl rfl (fun w' hm' => ?_)
 rw [show (placeG s y) = (0, ⟨(postG encP (fsM ms) y.fund (y.copies * y.price)).2, s.tol, insL s.L (placedO y, y.price)⟩) from by unfold placeG; rw [if_neg (by rw [hw]; decide), if_neg (by rw [hl]; decide), ← hfs, if_neg (by simpa using hc45)]]
 exact ⟨rfl, (q57.1, q57.2, m43), ⟨hq57, hm43.1, hm43.2, rfl⟩, hm'.less ((List.sublist_cons_self _ _).trans (List.sublist_cons_self _ _)) (fun _ h => h)⟩
theorem g_Place {w : World} {L : List (Nat × Obj)} {ro : List Snap} {mF pF pO mO ckF ckO : Nat} {esF esO : Array MapEntry} {money : Int} {ms : List FM} {s : SG} (hm : Mem w ((pO, Obj.cells (orC pF s.tol mO).toArray 38) :: (mO, Obj.map esO ckO) :: (mF, Obj.map esF ckF) :: (pF, Obj.cells (fnC mF money).toArray 125) :: (FB 130 ms ++ L)) ro) (hF : MapF Tryz.prog 3 esF (fMM ms)) (hO : MapC Tryz.prog 3 esO ckO (fOL s.L)) (hfs : fsM ms = s.fs) (hok : SGok s) {ws : World} (hws : (ws, fun _ => True) ∈ ro) (hL : LD ws) (y : PK.Ord) (hy : y.okA) (hlen : s.L.length ≤ 4000) : Calls Tryz.prog 12 #[.pointer (some ⟨pO, 0, none⟩), .agg y.cells.toArray] w fun e w' => e = .returned (.int .i64 (placeG s y).1) ∧ ∃ q : Array MapEntry × Nat × List FM, (MapC Tryz.prog 3 q.1 q.2.1 (fOL (placeG s y).2.L) ∧ fsM q.2.2 = (placeG s y).2.fs ∧ fMM q.2.2 = fMM ms ∧ (placeG s y).2.tol = s.tol) ∧ Mem w' ((pO, Obj.cells (orC pF s.tol mO).toArray 38) :: (mO, Obj.map q.1 q.2.1) :: (mF, Obj.map esF ckF) :: (pF, Obj.cells (fnC mF money).toArray 125) :: (FB 130 q.2.2 ++ L)) ro := by
 cases hw : writB y with
 | false => exact g_PlaceW hm hF hO hfs hok hws hL y hy hw
 | true =>
  cases hl : lkL s.L y.id with
  | none => exact g_PlaceF hm hF hO hfs hok hws hL y hy hw hl hlen
  | some z => obtain ⟨x, first⟩ := z; exact g_PlaceT hm hF hO hfs hok hws hL y hy hw hl
end Go.Proofs.YtifekogdhjabaaaGreatDoor
