/- Of the proofs of YtnflcekodobdlaaGreatDoor: Ca Cb Cc Da Db Dc Dd De Ea Df Eb Ec Ed Ee Ef, put together. -/
import Derived.Test.YtnflcekodobdlaaGreatDoorT6
import Derived.RangeFuncBound
import Derived.Test.YtnflcekodobdlaaGreatDoorT2
import Derived.Test.YtnflcekodobdlaaGreatDoorT1
import Derived.Test.YtnflcekodobdlaaGreatDoorT3
import Derived.Test.YtnflcekodobdlaaGreatDoorT4
import Derived.Test.YtnflcekodobdlaaGreatDoorT5
set_option linter.unusedVariables false
set_option linter.unusedSimpArgs false
set_option maxRecDepth 100000

namespace Go.Proofs.YtnflcekodobdlaaGreatDoor
open Go.RowKit Go.PK
theorem c_groups (n : Nat) (w : World) :
  Calls Tryz.prog 125 #[.int .u64 (n : Nat)] w fun e w' => ∃ Bs, e = .returned (.func (.func 145) #[] #[Pt Bs]) ∧ Later w w' ∧ Mem w' [(Bk Bs [Value.int .u64 ((n : Nat) : Int)] 155)] [(w, fun _ => True)] := by
 refine enter (vs := [.int .u64 (n : Nat)]) Tryz.func125 rfl Tryz.ntmps125 rfl ?_
 refine Zs (Zr ?_)
 refine x_box rfl rfl rfl rfl ?_
 intro p1
 refine Xa ?_
 refine Ze (Zt (Zs (Zr ?_)))
 refine Xv rfl (v_func rfl) ?_
 refine Xa ?_
 refine Ze (Zt (w_ret ?_))
 exact ret1 rfl rfl (fun w' hm => ⟨p1, rfl, hm.base (by simp), hm⟩)
theorem retn {P : Program} {n : Nat} {l : List (Nat × Value)} {own : List (Nat × Obj)} {ro : List Snap} {R : Ending → World → Prop} {fn : Func} (hr : fn.results = #[]) (h : ∀ w', Mem w' own ro → R (.returned (.tuple #[])) w') : S (bodyPost P fn R .ret) n l own ro := ret0 hr h
set_option maxHeartbeats 1000000 in
theorem c_groups1 {w : World} {ro : List Snap} {L Bs : Nat} (X : RowS → Nat → List (Nat × Obj)) (n : Nat) (hn : n < 18446744073709551616) (hm : Mem w ((Bk Bs [Value.int .u64 ((n : Nat) : Int)] 155) :: X none 0) ro) (hY : ∀ (bs : List UInt8) (v : Nat) (r : RowS) (w1 : World), rowOK 1 r bs.length (byC bs) → bs.length ≤ 9 → v < 18446744073709551616 → Mem w1 ((Bk Bs [Value.int .u64 ((v / 128 : Nat) : Int)] 155) :: X r bs.length) ro → YieldAt Fence.wide (2 - 1) Tryz.prog L [Value.int .u8 (((UInt8.ofNat (v % 128)).toNat : Nat) : Int), Value.bool (decide (((v / 128 : Nat) : Int) > 0))].toArray w1 fun e w2 => e = .returned (.bool true) ∧ ∃ r', rowOK 1 r' (bs ++ [(if v / 128 > 0 then UInt8.ofNat (v % 128 + 128) else UInt8.ofNat (v % 128))]).length (byC (bs ++ [(if v / 128 > 0 then UInt8.ofNat (v % 128 + 128) else UInt8.ofNat (v % 128))])) ∧ Mem w2 ((Bk Bs [Value.int .u64 ((v / 128 : Nat) : Int)] 155) :: X r' (bs ++ [(if v / 128 > 0 then UInt8.ofNat (v % 128 + 128) else UInt8.ofNat (v % 128))]).length) ro) :
  Calls Tryz.prog 145 #[.func (.yield L) #[] #[], Pt Bs] w fun e w' => (∃ v, e = .returned v) ∧ ∃ r' v', rowOK 1 r' (numG n).length (byC (numG n)) ∧ Mem w' ((Bk Bs [Value.int .u64 ((v' : Nat) : Int)] 155) :: X r' (numG n).length) ro := by
 refine enter_in hm (vs := [.func (.yield L) #[] #[], Pt Bs]) Tryz.func145 rfl Tryz.ntmps145 rfl ?_
 refine w_block ?_
 refine w_loop (σ := List UInt8 × Nat × RowS) (fun x => x.1 ++ numG x.2.1 = numG n ∧ rowOK 1 x.2.2 x.1.length (byC x.1) ∧ x.2.1 < 18446744073709551616) (fun x => [(0, Value.func (.yield L) #[] #[]), (1, Pt Bs)]) (fun x => (Bk Bs [Value.int .u64 ((x.2.1 : Nat) : Int)] 155) :: X x.2.2 x.1.length) (fun x => ro) (fun x => x.2.1) (([], n, none)) (⟨rfl, rowOK_nil, hn⟩) (l_start Zu (fun _ h => h)) ?_
 rintro ⟨bs, v, r⟩ ⟨hbs, hr, hv⟩
 refine w_state ([(0, Value.func (.yield L) #[] #[]), (1, Pt Bs)]) ((Bk Bs [Value.int .u64 ((v : Nat) : Int)] 155) :: X r bs.length) (ro) ?_
 dsimp only at hbs hr hv
 have hln : bs.length ≤ 9 := by have h1 := congrArg List.length hbs; rw [List.length_append] at h1; have h2 := numG_ten hn; have h3 := numG_pos v; omega
 refine w_block (Zs (Zr ?_))
 refine Xl rfl u155 rfl (at_ownL (vs := [Value.int .u64 ((v : Nat) : Int)]) (.head _) rfl) ?_
 refine Xv (v := Value.int .u64 ((v % 128 : Nat) : Int)) rfl (v_remN (b := 128) rfl rfl (by decide)) ?_
 refine Xv rfl (v_convU8 u155 u5 rfl (by omega)) ?_
 refine Xa ?_
 refine Ze (Zt (Zs (Zr ?_)))
 refine Xl rfl u155 rfl (at_ownL (vs := [Value.int .u64 ((v : Nat) : Int)]) (.head _) rfl) ?_
 refine Xv (v := Value.int .u64 ((v / 128 : Nat) : Int)) rfl (v_shr rfl rfl (by decide) (by show (v : Int) / 128 = _; omega)) ?_
 refine x_store (cs := [Value.int .u64 ((v : Nat) : Int)]) (off := 0) (e := 155) (l2 := X r bs.length) [] rfl rfl rfl rfl sz155 rfl (by show 1 ≤ 1; decide) ?_
 refine Ze (Zt (Zs ?_))
 refine rg_yield 4 2 Zk rfl ?_
 refine Xm ?_
 refine Xm ?_
 refine Xl rfl u155 rfl (at_ownL (vs := [Value.int .u64 ((v / 128 : Nat) : Int)]) (.head _) rfl) ?_
 refine Xb rfl (v_gtr rfl rfl) fun b12 hb12 => ?_
 refine Ze ?_
 subst hb12
 refine s_yield (fun r' : RowS => rowOK 1 r' (bs ++ [(if v / 128 > 0 then UInt8.ofNat (v % 128 + 128) else UInt8.ofNat (v % 128))]).length (byC (bs ++ [(if v / 128 > 0 then UInt8.ofNat (v % 128 + 128) else UInt8.ofNat (v % 128))]))) (fun r' => (Bk Bs [Value.int .u64 ((v / 128 : Nat) : Int)] 155) :: X r' (bs ++ [(if v / 128 > 0 then UInt8.ofNat (v % 128 + 128) else UInt8.ofNat (v % 128))]).length) rfl rfl rfl rfl rfl (fun w1 hw1 => (hY bs v r w1 hr hln hv hw1).mono fun e w2 h => h) fun r' hr' => ?_
 refine s_rest Zk rfl ?_
 refine Xv (v := Value.bool false) rfl (v_not (b := true) rfl) ?_
 refine Xm ?_
 refine x_valg rfl rfl rfl rfl rfl (v_load u155 rfl rfl (at_ownL (vs := [Value.int .u64 ((v / 128 : Nat) : Int)]) (.head _) rfl)) ?_
 refine x_boolg rfl rfl rfl rfl rfl (v_eql rfl rfl) fun b17 hb17 => ?_
 refine Xb rfl (v_or (g := false) rfl rfl) fun b18 hb18 => ?_
 refine Ze (Zt ?_)
 refine w_cond rfl (fun hc18 => ?_) fun hc18 => ?_
 ·have hv0 : v / 128 = 0 := by rw [hb18, hb17] at hc18; simp at hc18; omega
  refine w_ret (b_ret (t_ret (b_ret ?_)))
  have hv1 : v < 128 := by omega
  rw [numG_small hv1] at hbs
  have e9 : (if v / 128 > 0 then UInt8.ofNat (v % 128 + 128) else UInt8.ofNat (v % 128)) = UInt8.ofNat v := by rw [if_neg (by omega), Nat.mod_eq_of_lt hv1]
  rw [e9, hbs] at hr'
  refine retn rfl (fun w' hm => ⟨⟨_, rfl⟩, r', v / 128, hr', ?_⟩)
  rw [e9, hbs] at hm
  exact hm
 have hv0 : ¬v / 128 = 0 := by rw [hb18, hb17] at hc18; simp at hc18; omega
 refine w_skip (b_norm ?_)
 have hv1 : ¬v < 128 := by omega
 rw [numG_big hv1] at hbs
 have e9 : (if v / 128 > 0 then UInt8.ofNat (v % 128 + 128) else UInt8.ofNat (v % 128)) = UInt8.ofNat (v % 128 + 128) := if_pos (by omega)
 exact l_norm (x := (bs, v, r)) (μ := fun q : List UInt8 × Nat × RowS => q.2.1) (bs ++ [UInt8.ofNat (v % 128 + 128)], v / 128, r') ⟨by dsimp only; rw [← hbs, List.append_assoc]; rfl, by rw [← e9]; exact hr', by dsimp only; omega⟩ (by simp only; omega) Zu (fun _ h => by rw [e9] at h; exact h)
set_option maxHeartbeats 1000000 in
theorem c_Num (n : Nat) (w : World) (hn : n < 18446744073709551616) :
  Calls Tryz.prog 99 #[.int .u64 (n : Nat)] w fun e w' => e = .returned (.string ⟨(numG n).toArray⟩) ∧ Later w w' := by
 have hT := numG_ten hn
 refine enterM (vs := [.int .u64 (n : Nat)]) 2 Tryz.func99 rfl Tryz.ntmps99 rfl ?_
 refine Zs (Zr ?_)
 refine Xa ?_
 refine Ze (Zt (Zs (Zr ?_)))
 refine x_alloc rfl rfl rfl zr22 ?_
 intro p3
 refine Ze (Zt (Zs (Zs (Zr ?_))))
 refine Xm ?_
 refine x_own (τ := Nat) (fun Bs => .func (.func 145) #[] #[Pt Bs]) (fun _ => True) (fun Bs => (Bk Bs [Value.int .u64 ((n : Nat) : Int)] 155) :: [(Bk p3 [rowV none 0] 22)]) rfl rfl rfl Tryz.func125 Zk rfl (fun w1 hw1 => (c_groups n w1).mono fun e w2 ⟨Bs, h1, h2, h3⟩ => ⟨Bs, h1, h2, trivial, (hw1.join2 h3).to (by simp; rfl)⟩) fun Bs _ => ?_
 refine Ze (Zt (w_block ?_))
 refine w_range (fun x : RowS × Nat => rowOK 1 x.1 (numG n).length (byC (numG n))) (fun x => (Bk Bs [Value.int .u64 ((x.2 : Nat) : Int)] 155) :: (Bk p3 [rowV x.1 (numG n).length] 22) :: rowO 5 x.1) rfl (enters_of Tryz.func145 Zk rfl) ?_ ?_
 ·intro L D fn tmps w1 hfh hm1
  refine (c_groups1 (Bs := Bs) (L := L) (fun r k => (L, .loop (recL .ready fn tmps #[8, 9] _ _ D)) :: (D, .deferred (some [])) :: (Bk p3 [rowV r k] 22) :: rowO 5 r) n hn (hm1.perm (((List.Perm.swap _ _ _).cons _).trans (List.Perm.swap _ _ _))) ?_).mono ?_
  ·intro bs v r w2 hr hln hv hm2
   refine yield_two (m := 1) (hm2.perm (List.Perm.swap _ _ _)) hfh rfl rfl ?_
   refine wi_seq ?_
   refine ri_text (lets_round _) Zk ?_
   refine Xa ?_
   refine Ze ?_
   refine ti_norm ?_
   refine ri_text (lets_round _) Zk ?_
   refine Xa ?_
   refine Ze ?_
   refine t_k ?_
   refine s_begin rfl ?_
   refine wi_block ?_
   refine wi_seq ?_
   refine wi_seq ?_
   refine ri_text (lets_round _) Zk ?_
   refine Xm ?_
   refine Ze ?_
   refine ti_norm ?_
   refine wi_cond rfl (fun hc => ?_) (fun hc => ?_)
   ·have hv0 := of_decide_eq_true hc
    refine ri_text (lets_round _) Zk ?_
    refine Xm ?_
    refine Xv (v := Value.int .u8 (((UInt8.ofNat (v % 128 + 128)).toNat : Nat) : Int)) rfl (by rw [← or128 (Nat.mod_lt v (by decide))]; exact v_orK rfl rfl) ?_
    refine Xa ?_
    refine Ze ?_
    refine ti_norm ?_
    refine ri_text (lets_round _) Zk ?_
    refine Xl rfl u22 rfl (at_ownL (vs := [rowV r bs.length]) Zh rfl) ?_
    refine Xm ?_
    refine x_buildSliceL (cs := byC [UInt8.ofNat (v % 128 + 128)]) rfl rfl rfl u22 sz5 zr5 rfl rfl rfl ?_
    intro p15
    refine x_append (e := 5) [(p15, _), (L, _), (Bs, _), (D, _), (p3, _)] (l2 := []) r (len := bs.length) (xs := byC bs) rfl rfl rfl rfl (by simp only [List.append_nil]; rfl) hr u22 ap5 rfl rfl (m := 1) (news := byC [UInt8.ofNat (v % 128 + 128)]) (fun i hi => at_ownL (vs := byC [UInt8.ofNat (v % 128 + 128)]) (.head _) (by rw [Nat.zero_add]; exact List.getElem?_eq_getElem hi)) rfl Zx (by omega) fun r' hr' => ?_
    rw [List.append_nil]
    refine x_store (cs := [rowV r bs.length]) (off := 0) (e := 22) (l2 := rowO 5 r') [(p15, _), (L, _), (Bs, _), (D, _)] rfl rfl rfl rfl sz22 rfl (by show 1 ≤ 1; decide) ?_
    refine x_mem (fun _ h => h.less (List.sublist_cons_self _ _) (fun _ h => h)) ?_
    refine Ze (b_norm ?_)
    refine s_round (fun w' hm => ⟨rfl, r', ?_, ?_⟩)
    ·rw [(if_pos (show v / 128 > 0 by omega) : (if v / 128 > 0 then UInt8.ofNat (v % 128 + 128) else UInt8.ofNat (v % 128)) = _), byC_app, List.length_append]; exact hr'
    rw [(if_pos (show v / 128 > 0 by omega) : (if v / 128 > 0 then UInt8.ofNat (v % 128 + 128) else UInt8.ofNat (v % 128)) = _), List.length_append]; exact hm.perm (List.Perm.swap _ _ _)
   have hv0 := of_decide_eq_false hc
   refine wi_skip ?_
   refine ti_norm ?_
   refine ri_text (lets_round _) Zk ?_
   refine Xl rfl u22 rfl (at_ownL (vs := [rowV r bs.length]) Zh rfl) ?_
   refine Xm ?_
   refine x_buildSliceL (cs := byC [UInt8.ofNat (v % 128)]) rfl rfl rfl u22 sz5 zr5 rfl rfl rfl ?_
   intro p15
   refine x_append (e := 5) [(p15, _), (L, _), (Bs, _), (D, _), (p3, _)] (l2 := []) r (len := bs.length) (xs := byC bs) rfl rfl rfl rfl (by simp only [List.append_nil]; rfl) hr u22 ap5 rfl rfl (m := 1) (news := byC [UInt8.ofNat (v % 128)]) (fun i hi => at_ownL (vs := byC [UInt8.ofNat (v % 128)]) (.head _) (by rw [Nat.zero_add]; exact List.getElem?_eq_getElem hi)) rfl Zx (by omega) fun r' hr' => ?_
   rw [List.append_nil]
   refine x_store (cs := [rowV r bs.length]) (off := 0) (e := 22) (l2 := rowO 5 r') [(p15, _), (L, _), (Bs, _), (D, _)] rfl rfl rfl rfl sz22 rfl (by show 1 ≤ 1; decide) ?_
   refine x_mem (fun _ h => h.less (List.sublist_cons_self _ _) (fun _ h => h)) ?_
   refine Ze (b_norm ?_)
   refine s_round (fun w' hm => ⟨rfl, r', ?_, ?_⟩)
   ·rw [(if_neg (show ¬v / 128 > 0 by omega) : (if v / 128 > 0 then UInt8.ofNat (v % 128 + 128) else UInt8.ofNat (v % 128)) = _), byC_app, List.length_append]; exact hr'
   rw [(if_neg (show ¬v / 128 > 0 by omega) : (if v / 128 > 0 then UInt8.ofNat (v % 128 + 128) else UInt8.ofNat (v % 128)) = _), List.length_append]; exact hm.perm (List.Perm.swap _ _ _)
  rintro e w2 ⟨h1, r', v', h2, h3⟩
  exact ⟨h1, (r', v'), h2, h3.perm ((List.Perm.swap _ _ _).trans ((List.Perm.swap _ _ _).cons _))⟩
 rintro D ⟨r, v'⟩ hr
 dsimp only at hr ⊢
 refine sd_block ?_
 refine sd_then ?_
 refine sd_seq ?_
 refine sd_region ?_
 refine sdl_val rfl (v_load u22 rfl rfl (at_ownL (vs := [rowV r (numG n).length]) Zh rfl)) ?_
 refine sdl_val rfl (v_toStrR (E := 5) (numG n) u22 u5 u9 rfl hr rfl (fun q hq => .tail _ (.tail _ (.tail _ hq)))) ?_
 refine sdl_val rfl (v_assign rfl) ?_
 refine sdl_end ?_
 refine sd_then ?_
 refine sd_ret ?_
 exact ret1M rfl rfl (fun w' hm => ⟨rfl, hm.base (by simp)⟩)
open Go.RowKit Go.PK
theorem rd_in {D : Nat → Prop} {w : World} {A : Option Addr} {l c : Nat} {xs : List Int} (h : sliceRd tyI D w (.slice A l c) xs) : ∀ d ∈ xs, in64 d := fun d hd => by
 obtain ⟨j, hj, rfl⟩ := List.getElem_of_mem hd
 obtain ⟨_, _, _, _, _, h1⟩ := int_at h hj
 exact h1
theorem c_Sgn (n : Int) (w : World) (h : in64 n) :
  Calls Tryz.prog 100 #[Vi n] w fun e w' => e = .returned (.int .u64 (sgn n : Nat)) ∧ Later w w' := by
 refine enter (vs := [Vi n]) Tryz.func100 rfl Tryz.ntmps100 rfl ?_
 refine Zs (Zr ?_)
 refine Xa ?_
 refine Ze (Zt (Zs (Zr ?_)))
 refine Xm ?_
 refine Xv rfl (v_conv u3 u155 rfl) ?_
 refine Xv (v := Value.int .u64 (IntKind.u64.wrap (IntKind.u64.wrap n * 2))) rfl (v_shl rfl rfl (by decide) rfl) ?_
 refine Xm ?_
 refine Xv (v := Vi (n / 9223372036854775808)) rfl (v_shr rfl rfl (by decide) rfl) ?_
 refine Xv rfl (v_conv u3 u155 rfl) ?_
 refine Xv (v := Value.int .u64 (sgn n : Nat)) rfl (by rw [← xor_sgn h]; exact v_xorK rfl rfl) ?_
 refine Xa ?_
 refine Ze (Zt (w_ret ?_))
 refine ret1 rfl rfl (fun w' hm => ⟨?_, hm.base (by simp)⟩)
 rfl
theorem c_rSgn (n : Int) (w : World) (h : in64 n) :
  Calls Tryz.prog 127 #[Vi n] w fun e w' => e = .returned (.int .u64 (sgn n : Nat)) ∧ Later w w' := by
 refine enter (vs := [Vi n]) Tryz.func127 rfl Tryz.ntmps127 rfl ?_
 refine Zs (Zr ?_)
 refine Xa ?_
 refine Ze (Zt (Zs (Zs (Zr ?_))))
 refine Xm ?_
 refine Xb rfl (v_geq rfl rfl) fun b4 hb4 => ?_
 refine Ze (Zt ?_)
 refine w_cond rfl (fun hc4 => ?_) fun hc4 => ?_
 ·simp only [hb4, Qz, ne_eq] at hc4
  refine Zs (Zr ?_)
  refine Xm ?_
  refine Xv rfl (v_convE (c := n) u3 u155 rfl (u64_wrap (by unfold in64 at h; omega))) ?_
  refine Xv (v := Value.int .u64 (sgn n : Nat)) rfl (v_mulE rfl rfl (by rw [u64_wrap (by unfold in64 at h; omega)]; unfold sgn; rw [if_pos (by omega)]; omega)) ?_
  refine Xa ?_
  refine Ze (Zt (w_ret (t_ret ?_)))
  refine ret1 rfl rfl (fun w' hm => ⟨?_, hm.base (by simp)⟩)
  rfl
 simp only [hb4, Qz, ne_eq] at hc4
 refine w_skip (Zt (Zs (Zr ?_)))
 refine Xm ?_
 refine Xv rfl (v_subi (c := -1 - n) rfl rfl rfl (by unfold in64 at h; omega)) ?_
 refine Xv rfl (v_convE (c := -1 - n) u3 u155 rfl (u64_wrap (by unfold in64 at h; omega))) ?_
 refine Xv rfl (v_mulE (c := 2 * (-1 - n)) rfl rfl (u64_wrap (by unfold in64 at h; omega))) ?_
 refine Xv (v := Value.int .u64 (sgn n : Nat)) rfl (v_addE rfl rfl (by rw [u64_wrap (by unfold in64 at h; omega)]; unfold sgn; rw [if_neg (by omega)]; omega)) ?_
 refine Xa ?_
 refine Ze (Zt (w_ret ?_))
 refine ret1 rfl rfl (fun w' hm => ⟨?_, hm.base (by simp)⟩)
 rfl
theorem c_rN1 (n : Nat) (w : World) (hn : n < 18446744073709551616) (ih : ¬n < 128 → ∀ w1, Calls Tryz.prog 126 #[.int .u64 ((n / 128 : Nat) : Int)] w1 fun e w2 => e = .returned (.string ⟨(numG (n / 128)).toArray⟩) ∧ Later w1 w2) :
  Calls Tryz.prog 126 #[.int .u64 (n : Nat)] w fun e w' => e = .returned (.string ⟨(numG n).toArray⟩) ∧ Later w w' := by
 refine enter (vs := [.int .u64 (n : Nat)]) Tryz.func126 rfl Tryz.ntmps126 rfl ?_
 refine Zs (Zr ?_)
 refine Xa ?_
 refine Ze (Zt (Zs (Zs (Zr ?_))))
 refine Xm ?_
 refine Xb rfl (v_lss rfl rfl) fun b4 hb4 => ?_
 refine Ze (Zt ?_)
 refine w_cond rfl (fun hc4 => ?_) fun hc4 => ?_
 ·simp only [hb4, Qz, ne_eq] at hc4
  have hn1 : n < 128 := by omega
  refine Zs (Zr ?_)
  refine Xm ?_
  refine Xv rfl (v_convU8 u155 u5 rfl (by omega)) ?_
  refine x_buildSliceL rfl rfl rfl u22 sz5 zr5 rfl rfl rfl ?_
  intro p7
  refine Xv rfl (v_toStr [UInt8.ofNat n] u22 u5 u9 rfl rfl (fun j hj => at_ownL (vs := [Value.int .u8 ((UInt8.ofNat n).toNat : Nat)]) (.head _) (by match j, hj with | 0, _ => rfl))) ?_
  refine Xa ?_
  refine Ze (Zt (w_ret (t_ret ?_)))
  refine ret1 rfl rfl (fun w' hm => ⟨?_, hm.base (by simp)⟩)
  rw [numG_small hn1]
 simp only [hb4, Qz, ne_eq] at hc4
 have hn1 : ¬n < 128 := by omega
 refine w_skip (Zt (Zs ?_))
 refine rg_draw 11 [(true, 0), (true, 1), (true, 2), (true, 3), (true, 6), (true, 7), (true, 8), (false, 4), (true, 5), (true, 9), (true, 10)] Zk Zk ?_
 refine Xm ?_
 refine Xv (v := Value.int .u64 ((n % 128 : Nat) : Int)) rfl (v_remN (b := 128) rfl rfl (by decide)) ?_
 refine Xv (v := Value.int .u64 ((n % 128 + 128 : Nat) : Int)) rfl (v_addE rfl rfl (by rw [u64_wrap (by omega)]; omega)) ?_
 refine Xv rfl (v_convU8 u155 u5 rfl (by omega)) ?_
 refine Xm ?_
 refine Xv (v := Value.int .u64 ((n / 128 : Nat) : Int)) rfl (v_quoE rfl rfl (by decide) (by rw [show ((n : Nat) : Int).tdiv 128 = ((n / 128 : Nat) : Int) from rfl, u64_wrap (by omega)])) ?_
 refine x_callv rfl rfl rfl Tryz.func126 Zk rfl (fun w1 hw1 => ih hn1 w1) ?_
 refine x_buildSliceL rfl rfl rfl u22 sz5 zr5 rfl rfl rfl ?_
 intro p13
 refine Xv rfl (v_toStr [UInt8.ofNat (n % 128 + 128)] u22 u5 u9 rfl rfl (fun j hj => at_ownL (vs := [Value.int .u8 ((UInt8.ofNat (n % 128 + 128)).toNat : Nat)]) (.head _) (by match j, hj with | 0, _ => rfl))) ?_
 refine Xv rfl (v_saddL rfl rfl (by have := numG_ten (n := n / 128) (by omega); simp only [List.length_cons, List.length_nil]; omega)) ?_
 refine Xa ?_
 refine Ze (Zt (w_ret ?_))
 refine ret1 rfl rfl (fun w' hm => ⟨?_, hm.base (by simp)⟩)
 rw [numG_big hn1]; rfl
theorem c_rN : ∀ (m n : Nat) (w : World), n < 18446744073709551616 → n ≤ m → Calls Tryz.prog 126 #[.int .u64 (n : Nat)] w fun e w' => e = .returned (.string ⟨(numG n).toArray⟩) ∧ Later w w'
 | 0, n, w, hn, h => c_rN1 n w hn (fun h1 => by omega)
 | m + 1, n, w, hn, h => c_rN1 n w hn (fun h1 w1 => c_rN m (n / 128) w1 (by omega) (by omega))
theorem c_rNum (n : Nat) (w : World) (hn : n < 18446744073709551616) : Calls Tryz.prog 126 #[.int .u64 (n : Nat)] w fun e w' => e = .returned (.string ⟨(numG n).toArray⟩) ∧ Later w w' := c_rN n n w hn (Nat.le_refl _)
theorem c_rInts {D : Nat → Prop} {v : Value} {l : List Int} (w : World) (h : sliceRd tyI D w v l) (hll : l.length ≤ 1000000) :
  Calls Tryz.prog 102 #[v] w fun e w' => e = .returned (.string ⟨(intsG l).toArray⟩) ∧ Later w w' := by
 obtain ⟨A0, c0, rfl, hlc, hmx, -⟩ := id h
 have hin : ∀ n ∈ l, -9223372036854775808 ≤ n ∧ n ≤ 9223372036854775807 := rd_in h
 refine enter (vs := [Value.slice A0 l.length c0]) Tryz.func102 rfl Tryz.ntmps102 rfl ?_
 refine Zs (Zr ?_)
 refine Xa ?_
 refine Ze (Zt (Zs (Zr ?_)))
 refine Xm ?_
 refine Xv rfl (v_len_slice u25 rfl) ?_
 refine Xv rfl (v_convE (c := ((l.length : Nat) : Int)) u3 u155 rfl (u64_wrap (by omega))) ?_
 refine x_callv (v := Value.string ⟨(numG (l.length)).toArray⟩) rfl rfl rfl Tryz.func126 Zk rfl (fun w1 hw1 => c_rNum _ w1 (by omega)) ?_
 refine Xv (v := Value.string ⟨(intsT l 0).toArray⟩) rfl (by rw [intsT_zero]; exact v_assign rfl) ?_
 refine Ze (Zt (Zs (Zs (Zr ?_))))
 refine Xa ?_
 refine Ze (Zt (w_block ?_))
 refine w_loop (σ := Nat) (fun k => k ≤ l.length) (fun k => [(0, Value.slice A0 l.length c0), (3, Value.string ⟨(intsT l k).toArray⟩), (4, Vi (k : Nat))]) (fun k => []) (fun k => [(w, fun _ => True)]) (fun k => l.length - k) (0) (Nat.zero_le _) (l_start Zu (fun _ h => h)) ?_
 rintro k hk
 refine w_state ([(0, Value.slice A0 l.length c0), (3, Value.string ⟨(intsT l k).toArray⟩), (4, Vi (k : Nat))]) ([]) ([(w, fun _ => True)]) ?_
 refine Zs (Zs (Zr ?_))
 refine Xm ?_
 refine Xm ?_
 refine Xv rfl (v_len_slice u25 rfl) ?_
 refine Xb rfl (v_lss rfl rfl) fun b12 hb12 => ?_
 refine Ze (Zt ?_)
 refine w_cond rfl (fun hc12 => ?_) fun hc12 => ?_
 ·simp only [hb12, Qz, ne_eq] at hc12
  have hkl : k < l.length := by omega
  obtain ⟨b0, o0, hA0, _, hc0, hk9⟩ := int_at h hkl
  have hz := intsT_len (by omega) hin k (by omega)
  have hz2 := numG_ten (sgn_lt hk9)
  refine w_skip (Zt (Zs (w_block (Zr ?_))))
  refine Xm ?_
  refine Xm ?_
  refine Xm ?_
  refine Xv rfl (v_indexAddr u25 sz3 (congrArg (fun A => some (Value.slice A l.length c0)) hA0) rfl Zo rfl) ?_
  refine Xl rfl u3 rfl (at_ro (.head _) trivial (by rw [Nat.mul_one]; exact hc0)) ?_
  refine x_callv (v := Value.int .u64 ((sgn l[k] : Nat) : Int)) rfl rfl rfl Tryz.func127 Zk rfl (fun w1 hw1 => c_rSgn _ w1 hk9) ?_
  refine x_callv (v := Value.string ⟨(numG (sgn l[k])).toArray⟩) rfl rfl rfl Tryz.func126 Zk rfl (fun w1 hw1 => c_rNum _ w1 (sgn_lt hk9)) ?_
  refine Xv rfl (v_saddL rfl rfl (by omega)) ?_
  refine Xv (v := Value.string ⟨(intsT l (k + 1)).toArray⟩) rfl (by rw [intsT_succ hkl]; exact v_assign rfl) ?_
  refine Ze (b_norm (Zt (Zr ?_)))
  refine Xm ?_
  refine Xv rfl (v_addi rfl rfl rfl Zo) ?_
  refine Xa ?_
  refine Ze ?_
  exact l_norm (k + 1) (show k + 1 ≤ l.length by omega) (by omega) Zu (fun _ h => h)
 simp only [hb12, Qz, ne_eq] at hc12
 obtain rfl : k = l.length := by omega
 refine w_exit ?_
 refine t_exit ?_
 refine t_exit ?_
 refine b_hit ?_
 refine Zt (Zs (Zr ?_))
 refine Xm ?_
 refine Xa ?_
 refine Ze (Zt (w_ret ?_))
 refine ret1 rfl rfl (fun w' hm => ⟨?_, hm.base (by simp)⟩)
 rw [intsT_all]
theorem c_rPack {D : Nat → Prop} {v : Value} {l : List ByteArray} (w : World) (h : sliceRd tyStr D w v l) (hll : l.length ≤ 1000000) (hsz : ∀ s ∈ l, s.size ≤ 2000000) :
  Calls Tryz.prog 103 #[v] w fun e w' => e = .returned (.string ⟨(packG l).toArray⟩) ∧ Later w w' := by
 obtain ⟨A0, c0, rfl, hlc, hmx, -⟩ := id h
 refine enter (vs := [Value.slice A0 l.length c0]) Tryz.func103 rfl Tryz.ntmps103 rfl ?_
 refine Zs (Zr ?_)
 refine Xa ?_
 refine Ze (Zt (Zs (Zr ?_)))
 refine Xm ?_
 refine Xv rfl (v_len_slice u38 rfl) ?_
 refine Xv rfl (v_convE (c := ((l.length : Nat) : Int)) u3 u155 rfl (u64_wrap (by omega))) ?_
 refine x_callv (v := Value.string ⟨(numG (l.length)).toArray⟩) rfl rfl rfl Tryz.func126 Zk rfl (fun w1 hw1 => c_rNum _ w1 (by omega)) ?_
 refine Xv (v := Value.string ⟨(packT l 0).toArray⟩) rfl (by rw [packT_zero]; exact v_assign rfl) ?_
 refine Ze (Zt (Zs (Zs (Zr ?_))))
 refine Xa ?_
 refine Ze (Zt (w_block ?_))
 refine w_loop (σ := Nat) (fun k => k ≤ l.length) (fun k => [(0, Value.slice A0 l.length c0), (3, Value.string ⟨(packT l k).toArray⟩), (4, Vi (k : Nat))]) (fun k => []) (fun k => [(w, fun _ => True)]) (fun k => l.length - k) (0) (Nat.zero_le _) (l_start Zu (fun _ h => h)) ?_
 rintro k hk
 refine w_state ([(0, Value.slice A0 l.length c0), (3, Value.string ⟨(packT l k).toArray⟩), (4, Vi (k : Nat))]) ([]) ([(w, fun _ => True)]) ?_
 refine Zs (Zs (Zr ?_))
 refine Xm ?_
 refine Xm ?_
 refine Xv rfl (v_len_slice u38 rfl) ?_
 refine Xb rfl (v_lss rfl rfl) fun b12 hb12 => ?_
 refine Ze (Zt ?_)
 refine w_cond rfl (fun hc12 => ?_) fun hc12 => ?_
 ·simp only [hb12, Qz, ne_eq] at hc12
  have hkl : k < l.length := by omega
  obtain ⟨b0, o0, hA0, _, hc0, hk9⟩ := s_at h hkl
  have hz := packT_len (by omega) hsz (by decide) k (by omega)
  have hs9 := hsz _ (List.getElem_mem hkl)
  have hz2 := numG_ten (show l[k].size < 18446744073709551616 by omega)
  refine w_skip (Zt (Zs (w_block ?_)))
  refine rg_draw 15 [(true, 0), (true, 1), (true, 2), (true, 3), (true, 4), (true, 5), (true, 6), (true, 7), (true, 8), (true, 9), (true, 10), (true, 11), (true, 12), (true, 13), (true, 14)] Zk Zk ?_
  refine Xm ?_
  refine Xm ?_
  refine Xm ?_
  refine Xv rfl (v_indexAddr u38 sz9 (congrArg (fun A => some (Value.slice A l.length c0)) hA0) rfl Zo rfl) ?_
  refine Xl rfl u9 rfl (at_ro (.head _) trivial (by rw [Nat.mul_one]; exact hc0)) ?_
  refine Xv rfl (v_len_str u9 rfl) ?_
  refine Xv rfl (v_convE (c := ((l[k].size : Nat) : Int)) u3 u155 rfl (u64_wrap (by omega))) ?_
  refine x_callv (v := Value.string ⟨(numG (l[k].size)).toArray⟩) rfl rfl rfl Tryz.func126 Zk rfl (fun w1 hw1 => c_rNum _ w1 (by omega)) ?_
  refine Xv rfl (v_saddL rfl rfl (by omega)) ?_
  refine Xm ?_
  refine Xm ?_
  refine Xv rfl (v_indexAddr u38 sz9 (congrArg (fun A => some (Value.slice A l.length c0)) hA0) rfl Zo rfl) ?_
  refine Xl rfl u9 rfl (at_ro (.head _) trivial (by rw [Nat.mul_one]; exact hc0)) ?_
  refine Xv (v := Value.string ⟨(packT l (k + 1)).toArray⟩) rfl (by rw [packT_succ hkl, ← List.append_assoc, mk_app]; exact v_sadd rfl rfl (by rw [mk_size, List.length_append]; omega)) ?_
  refine Xa ?_
  refine Ze (b_norm (Zt (Zr ?_)))
  refine Xm ?_
  refine Xv rfl (v_addi rfl rfl rfl Zo) ?_
  refine Xa ?_
  refine Ze ?_
  exact l_norm (k + 1) (show k + 1 ≤ l.length by omega) (by omega) Zu (fun _ h => h)
 simp only [hb12, Qz, ne_eq] at hc12
 obtain rfl : k = l.length := by omega
 refine w_exit ?_
 refine t_exit ?_
 refine t_exit ?_
 refine b_hit ?_
 refine Zt (Zs (Zr ?_))
 refine Xm ?_
 refine Xa ?_
 refine Ze (Zt (w_ret ?_))
 refine ret1 rfl rfl (fun w' hm => ⟨?_, hm.base (by simp)⟩)
 rw [packT_all]
theorem c_Ints {D : Nat → Prop} {v : Value} {l : List Int} (w : World) (h : sliceRd tyI D w v l) (hll : l.length ≤ 1000000) :
  Calls Tryz.prog 71 #[v] w fun e w' => e = .returned (.string ⟨(intsG l).toArray⟩) ∧ Later w w' := by
 obtain ⟨A0, c0, rfl, hlc, hmx, -⟩ := id h
 have hin : ∀ n ∈ l, -9223372036854775808 ≤ n ∧ n ≤ 9223372036854775807 := rd_in h
 refine enter (vs := [Value.slice A0 l.length c0]) Tryz.func71 rfl Tryz.ntmps71 rfl ?_
 refine Zs (Zr ?_)
 refine Xa ?_
 refine Ze (Zt (Zs (Zr ?_)))
 refine x_alloc rfl rfl rfl zr153 ?_
 intro p3
 refine Ze (Zt (Zs (Zr ?_)))
 refine Xm ?_
 refine Xv rfl (v_len_slice u25 rfl) ?_
 refine Xv rfl (v_convE (c := ((l.length : Nat) : Int)) u3 u155 rfl (u64_wrap (by omega))) ?_
 refine x_callv (v := Value.string ⟨(numG (l.length)).toArray⟩) rfl rfl rfl Tryz.func99 Zk rfl (fun w1 hw1 => c_Num _ w1 (by omega)) ?_
 refine x_turnf (τ := RowS) (v := .tuple #[Vi ((numG l.length).length : Nat), .nilIface]) (fun r' => rowOK 1 r' ([] ++ numG l.length).length (byC ([] ++ numG l.length))) (fun r' => (bld2 153 5 p3 (Pt p3) r' (([] ++ numG l.length).length)) ++ []) rfl rfl Tryz.func98 Zk rfl (fun w1 hw1 => by
  have h := c_WS (l2 := []) (bs := []) (r := none) (pp := (.pointer none)) w1 (hw1.to (by first | rfl | simp [bld2, rowO])) (p := p3) (.inl rfl) ⟨(numG l.length).toArray⟩ rowOK_nil (by have := numG_ten (n := l.length) (by omega); (try show (0 : Nat) ≤ 4000000000000); omega) (by rw [mk_size]; have := numG_ten (n := l.length) (by omega); (try show (0 : Nat) ≤ 4000000000000); omega)
  rw [bl_mk, mk_size] at h
  exact h.mono fun e w2 ⟨h1, r', h2, h3⟩ => ⟨h1, r', h2, h3⟩) ?_
 intro r10 hr10
 rw [List.nil_append] at hr10
 refine Ze (Zt (Zs (Zs (Zr ?_))))
 refine Xm ?_
 refine Xv rfl (v_len_slice u25 rfl) ?_
 refine Xm ?_
 refine Ze (Zt (w_block ?_))
 refine w_loop (σ := Nat × RowS) (fun x => x.1 ≤ l.length ∧ rowOK 1 x.2 (intsT l x.1).length (byC (intsT l x.1))) (fun x => [(3, Pt p3), (11, Value.slice A0 l.length c0), (12, Vi (l.length : Nat)), (13, Vi (x.1 : Nat))]) (fun x => (bld2 153 5 p3 (Pt p3) x.2 ((intsT l x.1).length)) ++ []) (fun x => [(w, fun _ => True)]) (fun x => l.length - x.1) ((0, r10)) (⟨Nat.zero_le _, by dsimp only; rw [intsT_zero]; exact hr10⟩) (l_start Zu (fun _ h => by rw [intsT_zero]; exact h)) ?_
 rintro ⟨k, r⟩ ⟨hk, hr⟩
 refine w_state ([(3, Pt p3), (11, Value.slice A0 l.length c0), (12, Vi (l.length : Nat)), (13, Vi (k : Nat))]) ((bld2 153 5 p3 (Pt p3) r ((intsT l k).length)) ++ []) ([(w, fun _ => True)]) ?_
 dsimp only at hk hr
 refine Zs (Zr ?_)
 refine Xb rfl (v_lss rfl rfl) fun b14 hb14 => ?_
 refine Ze (Zt (Zs ?_))
 refine w_cond rfl (fun hc14 => ?_) fun hc14 => ?_
 ·simp only [hb14, Qz, ne_eq] at hc14
  have hkl : k < l.length := by omega
  obtain ⟨b0, o0, hA0, _, hc0, hk9⟩ := int_at h hkl
  have hz := intsT_len (by omega) hin k (by omega)
  have hz2 := numG_ten (sgn_lt hk9)
  refine w_skip (Zt (Zs (w_block (Zs (Zr ?_)))))
  refine Xv rfl (v_indexAddr u25 sz3 (congrArg (fun A => some (Value.slice A l.length c0)) hA0) rfl Zo rfl) ?_
  refine Xl rfl u3 rfl (at_ro (.head _) trivial (by rw [Nat.mul_one]; exact hc0)) ?_
  refine Xa ?_
  refine Ze (Zt (Zr ?_))
  refine Xm ?_
  refine x_callv (v := Value.int .u64 ((sgn l[k] : Nat) : Int)) rfl rfl rfl Tryz.func100 Zk rfl (fun w1 hw1 => c_Sgn _ w1 hk9) ?_
  refine x_callv (v := Value.string ⟨(numG (sgn l[k])).toArray⟩) rfl rfl rfl Tryz.func99 Zk rfl (fun w1 hw1 => c_Num _ w1 (sgn_lt hk9)) ?_
  refine x_turnf (τ := RowS) (v := .tuple #[Vi ((numG (sgn l[k])).length : Nat), .nilIface]) (fun r' => rowOK 1 r' ((intsT l k) ++ numG (sgn l[k])).length (byC ((intsT l k) ++ numG (sgn l[k])))) (fun r' => (bld2 153 5 p3 (Pt p3) r' (((intsT l k) ++ numG (sgn l[k])).length)) ++ []) rfl rfl Tryz.func98 Zk rfl (fun w1 hw1 => by
   have h := c_WS (l2 := []) (bs := (intsT l k)) (r := r) (pp := (Pt p3)) w1 (hw1.to (by first | rfl | simp [bld2, rowO])) (p := p3) (.inr rfl) ⟨(numG (sgn l[k])).toArray⟩ hr (by omega) (by rw [mk_size]; omega)
   rw [bl_mk, mk_size] at h
   exact h.mono fun e w2 ⟨h1, r', h2, h3⟩ => ⟨h1, r', h2, h3⟩) ?_
  intro r20 hr20
  refine Ze (b_norm (Zt (Zr ?_)))
  refine Xv rfl (v_addi rfl rfl rfl Zo) ?_
  refine Xm ?_
  refine Ze ?_
  exact l_norm (x := (k, r)) (μ := fun q : Nat × RowS => l.length - q.1) (k + 1, r20) ⟨by dsimp only; omega, by dsimp only; rw [intsT_succ hkl]; exact hr20⟩ (by simp only; omega) Zu (fun _ h => by rw [intsT_succ hkl]; exact h)
 simp only [hb14, Qz, ne_eq] at hc14
 refine w_exit ?_
 refine t_exit ?_
 refine t_exit ?_
 refine b_hit ?_
 refine Zt (Zs (Zr ?_))
 obtain rfl : k = l.length := by omega
 rw [intsT_all] at hr
 refine x_turnf (τ := Unit) (v := .string ⟨(intsG l).toArray⟩) (fun _ => True) (fun _ => []) rfl rfl Tryz.func101 Zk rfl (fun w1 hw1 => (c_BS (l2 := []) (bs := intsG l) w1 (hw1.to (by rw [intsT_all])) (p := p3) (.inr rfl) hr (B := w.heap.size) (fun q hq => by rw [List.mem_singleton.1 hq]; exact Nat.le_refl _) (fun q hq => by cases hq) (fun q hq => hw1.newer (by simp) (by rw [intsT_all]; exact List.mem_append_left _ hq)) (hw1.base (by simp)).size).mono fun e w2 h => ⟨h.1, (), trivial, h.2⟩) fun _ _ => ?_
 refine Xa ?_
 refine Ze (Zt (w_ret ?_))
 refine ret1 rfl rfl (fun w' hm => ⟨?_, hm.base (by simp)⟩)
 rfl
theorem c_Pack {D : Nat → Prop} {v : Value} {l : List ByteArray} (w : World) (h : sliceRd tyStr D w v l) (hll : l.length ≤ 1000000) (hsz : ∀ s ∈ l, s.size ≤ 2000000) :
  Calls Tryz.prog 72 #[v] w fun e w' => e = .returned (.string ⟨(packG l).toArray⟩) ∧ Later w w' := by
 obtain ⟨A0, c0, rfl, hlc, hmx, -⟩ := id h
 refine enter (vs := [Value.slice A0 l.length c0]) Tryz.func72 rfl Tryz.ntmps72 rfl ?_
 refine Zs (Zr ?_)
 refine Xa ?_
 refine Ze (Zt (Zs (Zr ?_)))
 refine x_alloc rfl rfl rfl zr153 ?_
 intro p3
 refine Ze (Zt (Zs (Zr ?_)))
 refine Xm ?_
 refine Xv rfl (v_len_slice u38 rfl) ?_
 refine Xv rfl (v_convE (c := ((l.length : Nat) : Int)) u3 u155 rfl (u64_wrap (by omega))) ?_
 refine x_callv (v := Value.string ⟨(numG (l.length)).toArray⟩) rfl rfl rfl Tryz.func99 Zk rfl (fun w1 hw1 => c_Num _ w1 (by omega)) ?_
 refine x_turnf (τ := RowS) (v := .tuple #[Vi ((numG l.length).length : Nat), .nilIface]) (fun r' => rowOK 1 r' ([] ++ numG l.length).length (byC ([] ++ numG l.length))) (fun r' => (bld2 153 5 p3 (Pt p3) r' (([] ++ numG l.length).length)) ++ []) rfl rfl Tryz.func98 Zk rfl (fun w1 hw1 => by
  have h := c_WS (l2 := []) (bs := []) (r := none) (pp := (.pointer none)) w1 (hw1.to (by first | rfl | simp [bld2, rowO])) (p := p3) (.inl rfl) ⟨(numG l.length).toArray⟩ rowOK_nil (by have := numG_ten (n := l.length) (by omega); (try show (0 : Nat) ≤ 4000000000000); omega) (by rw [mk_size]; have := numG_ten (n := l.length) (by omega); (try show (0 : Nat) ≤ 4000000000000); omega)
  rw [bl_mk, mk_size] at h
  exact h.mono fun e w2 ⟨h1, r', h2, h3⟩ => ⟨h1, r', h2, h3⟩) ?_
 intro r10 hr10
 rw [List.nil_append] at hr10
 refine Ze (Zt (Zs (Zs (Zr ?_))))
 refine Xm ?_
 refine Xv rfl (v_len_slice u38 rfl) ?_
 refine Xm ?_
 refine Ze (Zt (w_block ?_))
 refine w_loop (σ := Nat × RowS) (fun x => x.1 ≤ l.length ∧ rowOK 1 x.2 (packT l x.1).length (byC (packT l x.1))) (fun x => [(3, Pt p3), (11, Value.slice A0 l.length c0), (12, Vi (l.length : Nat)), (13, Vi (x.1 : Nat))]) (fun x => (bld2 153 5 p3 (Pt p3) x.2 ((packT l x.1).length)) ++ []) (fun x => [(w, fun _ => True)]) (fun x => l.length - x.1) ((0, r10)) (⟨Nat.zero_le _, by dsimp only; rw [packT_zero]; exact hr10⟩) (l_start Zu (fun _ h => by rw [packT_zero]; exact h)) ?_
 rintro ⟨k, r⟩ ⟨hk, hr⟩
 refine w_state ([(3, Pt p3), (11, Value.slice A0 l.length c0), (12, Vi (l.length : Nat)), (13, Vi (k : Nat))]) ((bld2 153 5 p3 (Pt p3) r ((packT l k).length)) ++ []) ([(w, fun _ => True)]) ?_
 dsimp only at hk hr
 refine Zs (Zr ?_)
 refine Xb rfl (v_lss rfl rfl) fun b14 hb14 => ?_
 refine Ze (Zt (Zs ?_))
 refine w_cond rfl (fun hc14 => ?_) fun hc14 => ?_
 ·simp only [hb14, Qz, ne_eq] at hc14
  have hkl : k < l.length := by omega
  obtain ⟨b0, o0, hA0, _, hc0, hk9⟩ := s_at h hkl
  have hz := packT_len (by omega) hsz (by decide) k (by omega)
  have hs9 := hsz _ (List.getElem_mem hkl)
  have hz2 := numG_ten (show l[k].size < 18446744073709551616 by omega)
  refine w_skip (Zt (Zs (w_block (Zs (Zr ?_)))))
  refine Xv rfl (v_indexAddr u38 sz9 (congrArg (fun A => some (Value.slice A l.length c0)) hA0) rfl Zo rfl) ?_
  refine Xl rfl u9 rfl (at_ro (.head _) trivial (by rw [Nat.mul_one]; exact hc0)) ?_
  refine Xa ?_
  refine Ze (Zt (Zr ?_))
  refine Xm ?_
  refine Xv rfl (v_len_str u9 rfl) ?_
  refine Xv rfl (v_convE (c := ((l[k].size : Nat) : Int)) u3 u155 rfl (u64_wrap (by omega))) ?_
  refine x_callv (v := Value.string ⟨(numG (l[k].size)).toArray⟩) rfl rfl rfl Tryz.func99 Zk rfl (fun w1 hw1 => c_Num _ w1 (by omega)) ?_
  refine Xm ?_
  refine Xv (v := Value.string ⟨(numG l[k].size ++ bl l[k]).toArray⟩) rfl (by rw [mk_app]; exact v_sadd rfl rfl (by rw [mk_size]; omega)) ?_
  refine x_turnf (τ := RowS) (v := .tuple #[Vi (((numG l[k].size ++ bl l[k])).length : Nat), .nilIface]) (fun r' => rowOK 1 r' ((packT l k) ++ (numG l[k].size ++ bl l[k])).length (byC ((packT l k) ++ (numG l[k].size ++ bl l[k])))) (fun r' => (bld2 153 5 p3 (Pt p3) r' (((packT l k) ++ (numG l[k].size ++ bl l[k])).length)) ++ []) rfl rfl Tryz.func98 Zk rfl (fun w1 hw1 => by
   have h := c_WS (l2 := []) (bs := (packT l k)) (r := r) (pp := (Pt p3)) w1 (hw1.to (by first | rfl | simp [bld2, rowO])) (p := p3) (.inr rfl) ⟨((numG l[k].size ++ bl l[k])).toArray⟩ hr (by (try simp only [List.length_append, bl_len]); omega) (by rw [mk_size]; (try simp only [List.length_append, bl_len]); omega)
   rw [bl_mk, mk_size] at h
   exact h.mono fun e w2 ⟨h1, r', h2, h3⟩ => ⟨h1, r', h2, h3⟩) ?_
  intro r23 hr23
  refine Ze (b_norm (Zt (Zr ?_)))
  refine Xv rfl (v_addi rfl rfl rfl Zo) ?_
  refine Xm ?_
  refine Ze ?_
  exact l_norm (x := (k, r)) (μ := fun q : Nat × RowS => l.length - q.1) (k + 1, r23) ⟨by dsimp only; omega, by dsimp only; rw [packT_succ hkl]; exact hr23⟩ (by simp only; omega) Zu (fun _ h => by rw [packT_succ hkl]; exact h)
 simp only [hb14, Qz, ne_eq] at hc14
 refine w_exit ?_
 refine t_exit ?_
 refine t_exit ?_
 refine b_hit ?_
 refine Zt (Zs (Zr ?_))
 obtain rfl : k = l.length := by omega
 rw [packT_all] at hr
 refine x_turnf (τ := Unit) (v := .string ⟨(packG l).toArray⟩) (fun _ => True) (fun _ => []) rfl rfl Tryz.func101 Zk rfl (fun w1 hw1 => (c_BS (l2 := []) (bs := packG l) w1 (hw1.to (by rw [packT_all])) (p := p3) (.inr rfl) hr (B := w.heap.size) (fun q hq => by rw [List.mem_singleton.1 hq]; exact Nat.le_refl _) (fun q hq => by cases hq) (fun q hq => hw1.newer (by simp) (by rw [packT_all]; exact List.mem_append_left _ hq)) (hw1.base (by simp)).size).mono fun e w2 h => ⟨h.1, (), trivial, h.2⟩) fun _ _ => ?_
 refine Xa ?_
 refine Ze (Zt (w_ret ?_))
 refine ret1 rfl rfl (fun w' hm => ⟨?_, hm.base (by simp)⟩)
 rfl
open Go.RowKit Go.PK
set_option maxHeartbeats 1000000 in
theorem k_Encode {pf : Nat} {fs : List FD} {R : RowS} (w : World) (hp : w.cell? ⟨pf, 0, none⟩ = some (rowV R fs.length)) (hR : rowOK 6 R fs.length (fdsC fs)) (hW : ∀ q ∈ rowO 28 R, w.heap[q.1]? = some q.2) (hlen : fs.length ≤ 5000) (hs8 : ∀ q ∈ fs, q.txt.size ≤ 2000000) (hi8 : ∀ q ∈ fs, in64 q.ag ∧ in64 q.num ∧ in64 q.kind ∧ in64 q.hd ∧ in64 q.to) :
  Calls Tryz.prog 35 #[Pt pf] w fun e w' => e = .returned (.string (encF8 fs)) ∧ Later w w' := by
 refine enter (vs := [Pt pf]) Tryz.func35 rfl Tryz.ntmps35 rfl ?_
 refine Zs (Zr ?_)
 refine Xa ?_
 refine Ze (Zt (Zs (Zs (Zr ?_))))
 refine Xm ?_
 refine Xb rfl (v_pnil (o := some ⟨pf, 0, none⟩) u29 rfl rfl) fun b7 hb7 => ?_
 refine Ze (Zt ?_)
 refine w_cond rfl (fun hc7 => ?_) fun hc7 => ?_
 ·rw [hb7] at hc7; cases hc7
 skip
 refine w_skip (Zt (Zs (Zr ?_)))
 refine Xa ?_
 refine Ze (Zt (Zs (Zs (Zr ?_))))
 refine Xm ?_
 refine Xn ?_
 refine Xf 0 rfl u78 rfl sz24 ?_
 refine Xl rfl u24 rfl (at_ro (.head _) trivial hp) ?_
 refine Xv (v := Vi (fs.length : Nat)) rfl (v_len_slice u24 rfl) ?_
 refine Xm ?_
 refine Ze (Zt (w_block ?_))
 refine w_loop (σ := Nat × RowS) (fun z => z.1 ≤ fs.length ∧ rowOK 1 z.2 (2 * z.1) ((encT8 (fs.take z.1)).map Value.string)) (fun z => [(3, rowV z.2 (2 * z.1)), (11, rowV R fs.length), (12, Vi (fs.length : Nat)), (13, Vi (z.1 : Nat))]) (fun z => rowO 9 z.2) (fun z => [(w, fun _ => True)]) (fun z => fs.length - z.1) ((0, none)) (⟨Nat.zero_le _, rowOK_nil⟩) (l_start Zu (fun _ h => h)) ?_
 rintro ⟨k, r⟩ ⟨hk, hr⟩
 refine w_state ([(3, rowV r (2 * k)), (11, rowV R fs.length), (12, Vi (fs.length : Nat)), (13, Vi (k : Nat))]) (rowO 9 r) ([(w, fun _ => True)]) ?_
 dsimp only at hk hr
 refine Zs (Zr ?_)
 refine Xb rfl (v_lss rfl rfl) fun b14 hb14 => ?_
 refine Ze (Zt (Zs ?_))
 refine w_cond rfl (fun hc14 => ?_) fun hc14 => ?_
 ·simp only [hb14, Qz, ne_eq] at hc14
  have hkl : k < fs.length := by omega
  obtain ⟨g8, cs8, c8, hRg, hcp, hc8⟩ := fd_cell hR hkl
  have hcell8 : ∀ i9 v, (fs[k].cells)[i9]? = some v → w.cell? ⟨g8, k * 6 + i9, none⟩ = some v := fun i9 v hv => (by have hg := hW (g8, .cells cs8.toArray 28 (0, 0)) (by rw [hRg]; exact .head _); have hi : i9 < 6 := (List.getElem?_eq_some_iff.1 hv).1; rw [cell_of_row w g8 _ _ 28 (0, 0) hg, List.getElem?_toArray, hc8 i9 hi]; exact hv)
  refine w_skip (Zt (Zs (w_block (Zs (Zr ?_)))))
  refine Xv rfl (v_indexAddr u24 sz28 (congrArg (fun R => some (rowV R fs.length)) hRg) rfl (hkl) rfl) ?_
  refine Xv rfl (v_loadN (vs := fs[k].cells) u28 rfl sz28 rfl (fun i hi => at_ro (.head _) trivial (by rw [Nat.zero_add]; exact hcell8 i _ (List.getElem?_eq_getElem hi)))) ?_
  refine x_alloc rfl rfl rfl zr28 ?_
  intro p5
  refine x_store0 [] rfl rfl rfl rfl sz28 rfl rfl ?_
  refine Ze (Zt ?_)
  refine rg_inv ([(p5, Obj.cells fs[k].cells.toArray 28)]) 16 (.flt 0 (.flt 1 (.flt 2 (.flt 3 (.flt 4 (.flt 5 (.flt 6 (.flt 7 (.flt 8 (.flt 9 (.flt 10 (.flt 13 (.flt 14 (.gr 11 (.gr 12 (.gr 15 .done .nil) .nil) .nil)))))))))))))) (by first | exact (List.nil_sublist _).cons_cons _ | exact ((List.nil_sublist _).cons_cons _).cons _ | exact (((List.nil_sublist _).cons_cons _).cons _).cons _) Zk Zk ?_
  refine j_val rfl rfl (v_move rfl) ?_
  refine j_val rfl rfl (v_fieldAddr (off' := 0) u28 rfl sz3 (by decide) rfl rfl) ?_
  refine j_val rfl rfl (v_load u3 rfl rfl (at_ownL (vs := fs[k].cells) (.head _) rfl)) ?_
  refine j_val rfl rfl (v_fieldAddr (off' := 1) u28 rfl sz3 (by decide) rfl rfl) ?_
  refine j_val rfl rfl (v_load u3 rfl rfl (at_ownL (vs := fs[k].cells) (.head _) rfl)) ?_
  refine j_val rfl rfl (v_fieldAddr (off' := 2) u28 rfl sz3 (by decide) rfl rfl) ?_
  refine j_val rfl rfl (v_load u3 rfl rfl (at_ownL (vs := fs[k].cells) (.head _) rfl)) ?_
  refine j_val rfl rfl (v_fieldAddr (off' := 3) u28 rfl sz3 (by decide) rfl rfl) ?_
  refine j_val rfl rfl (v_load u3 rfl rfl (at_ownL (vs := fs[k].cells) (.head _) rfl)) ?_
  refine j_val rfl rfl (v_fieldAddr (off' := 4) u28 rfl sz3 (by decide) rfl rfl) ?_
  refine j_val rfl rfl (v_load u3 rfl rfl (at_ownL (vs := fs[k].cells) (.head _) rfl)) ?_
  refine j_val rfl rfl (v_fieldAddr (off' := 5) u28 rfl sz9 (by decide) rfl rfl) ?_
  refine j_val rfl rfl (v_load u9 rfl rfl (at_ownL (vs := fs[k].cells) (.head _) rfl)) ?_
  refine j_gr ?_ j_nil
  refine x_buildSliceL (cs := [Vi fs[k].ag, Vi fs[k].num, Vi fs[k].kind, Vi fs[k].hd, Vi fs[k].to]) rfl rfl rfl u25 sz3 zr3 rfl rfl rfl ?_
  intro p28
  refine Ze ?_
  refine j_end (by first | exact (List.nil_sublist _).cons_cons _ | exact ((List.nil_sublist _).cons_cons _).cons _ | exact (((List.nil_sublist _).cons_cons _).cons _).cons _) ?_
  refine j_gr ?_ j_nil
  refine x_callv rfl rfl rfl Tryz.func71 Zk rfl (fun w1 hw1 => c_Ints w1 (rowI_rd (D := fun _ => True) (e := 3) (r := some (p28, [Vi fs[k].ag, Vi fs[k].num, Vi fs[k].kind, Vi fs[k].hd, Vi fs[k].to], 5)) (ds := i5F fs[k]) (n := 5) ⟨rfl, Nat.le_refl _, by simp only [maxLen]; omega, rfl, rfl⟩ rfl (fun d hd => by obtain ⟨q1, q2, q3, q4, q5⟩ := hi8 _ (List.getElem_mem hkl); simp only [i5F, List.mem_cons, List.mem_nil_iff, or_false] at hd; rcases hd with rfl | rfl | rfl | rfl | rfl <;> assumption) hw1 (fun q hq => by rw [List.mem_singleton.1 hq]; exact .head _) (fun _ _ => trivial)) (by show 5 ≤ 1000000; omega)) ?_
  refine Ze ?_
  refine j_end (by first | exact (List.nil_sublist _).cons_cons _ | exact ((List.nil_sublist _).cons_cons _).cons _ | exact (((List.nil_sublist _).cons_cons _).cons _).cons _) ?_
  refine j_gr ?_ j_nil
  refine x_buildSliceL (cs := [Value.string (⟨(intsG (i5F fs[k])).toArray⟩ : ByteArray), Value.string fs[k].txt]) rfl rfl rfl u38 sz9 zr9 rfl rfl rfl ?_
  intro p32
  refine Ze ?_
  refine j_end (by first | exact (List.nil_sublist _).cons_cons _ | exact ((List.nil_sublist _).cons_cons _).cons _ | exact (((List.nil_sublist _).cons_cons _).cons _).cons _) ?_
  refine j_done ?_
  refine x_append (e := 9) [(p32, _), (p28, _), (p5, _)] (l2 := []) r (len := 2 * k) (xs := (encT8 (fs.take k)).map Value.string) rfl rfl rfl rfl (by rw [List.append_nil]; rfl) hr u38 ap9 rfl rfl (m := 2) (news := [Value.string (⟨(intsG (i5F fs[k])).toArray⟩ : ByteArray), Value.string fs[k].txt]) (fun i hi => at_ownL (vs := [Value.string (⟨(intsG (i5F fs[k])).toArray⟩ : ByteArray), Value.string fs[k].txt]) (.head _) (by rw [Nat.zero_add]; exact List.getElem?_eq_getElem hi)) rfl Zx (by omega) fun r' hr' => ?_
  refine Xa ?_
  refine Ze (b_norm (Zt (Zr ?_)))
  refine Xv rfl (v_addi rfl rfl rfl Zo) ?_
  refine Xm ?_
  refine Ze ?_
  exact l_norm (k + 1, r') ⟨hkl, by dsimp only; rw [encT8_succ hkl, List.map_append]; exact hr'⟩ (by simp only; omega) Zu (fun _ h => by
   have h2 := h.less (List.sublist_append_left _ _) (fun _ h => h)
   exact h2.less (((List.sublist_cons_self _ _).trans (List.sublist_cons_self _ _)).trans (List.sublist_cons_self _ _)) (fun _ h => h))
 simp only [hb14, Qz, ne_eq] at hc14
 obtain rfl : k = fs.length := by omega
 rw [List.take_length] at hr
 refine w_exit ?_
 refine t_exit ?_
 refine t_exit ?_
 refine b_hit ?_
 refine Zt (Zs (Zr ?_))
 refine Xm ?_
 refine x_callv rfl rfl rfl Tryz.func72 Zk rfl (fun w1 hw1 => c_Pack (l := encT8 fs) w1 (rowS_rd (D := fun _ => True) (e := 9) hr (encT8_len fs).symm (fun s hs => by have := encT8_size hs8 hi8 s hs; unfold okS; omega) hw1 (fun q hq => hq) (fun _ _ => trivial)) (by rw [encT8_len]; omega) (encT8_size hs8 hi8)) ?_
 refine Xa ?_
 refine Ze (Zt (w_ret ?_))
 refine ret1 rfl rfl (fun w' hm => ⟨?_, hm.base (by simp)⟩)
 rfl
open Go.RowKit Go.PK
set_option maxHeartbeats 1000000 in
theorem r_Words (s : ByteArray) (w : World) (hs : s.size ≤ 4000000) :
  Calls Tryz.prog 21 #[.string s] w fun e w' => ∃ r, e = .returned (rowV r (wordsP s).length) ∧ rowOK 1 r (wordsP s).length ((wordsP s).map Value.string) ∧ Mem w' (rowO 9 r) [(w, fun _ => True)] := by
 refine enter (vs := [.string s]) Tryz.func21 rfl Tryz.ntmps21 rfl ?_
 refine Zs (Zr ?_)
 refine Xa ?_
 refine Ze (Zt (Zs (Zr ?_)))
 refine Xa ?_
 refine Ze (Zt (Zs (Zr ?_)))
 refine Xa ?_
 refine Ze (Zt (Zs (Zr ?_)))
 refine Xm ?_
 refine x_runes rfl rfl rfl u9 u100 u21 rfl (by omega) fun p9 cp9 cs9 hcp9 hcs9 hcl9 => ?_
 refine Xa ?_
 refine Ze (Zt (Zs (Zs (Zr ?_))))
 refine Xa ?_
 refine Ze (Zt (w_block ?_))
 refine w_loop (σ := Nat × RowS × List ByteArray × ByteArray) (fun z => z.1 ≤ (runes s).length ∧ rowOK 1 z.2.1 z.2.2.1.length (z.2.2.1.map Value.string) ∧ z.2.2.1 ++ wordsF ((runes s).drop z.1) z.2.2.2 = wordsP s ∧ z.2.2.2.size + wgt ((runes s).drop z.1) ≤ s.size) (fun z => [(3, rowV z.2.1 z.2.2.1.length), (4, Value.string z.2.2.2), (5, Value.slice (some ⟨p9, 0, none⟩) (runes s).length cp9), (6, Vi (z.1 : Nat))]) (fun z => (Bk p9 cs9 21) :: rowO 9 z.2.1) (fun z => [(w, fun _ => True)]) (fun z => (runes s).length - z.1) ((0, none, [], ⟨#[]⟩)) (⟨Nat.zero_le _, rowOK_nil, rfl, by have := wgt_runes s; show 0 + wgt (runes s) ≤ _; omega⟩) (l_start Zu (fun _ h => h)) ?_
 rintro ⟨k, r, ws, wd⟩ ⟨hk, hr, hws, hsz⟩
 refine w_state ([(3, rowV r ws.length), (4, Value.string wd), (5, Value.slice (some ⟨p9, 0, none⟩) (runes s).length cp9), (6, Vi (k : Nat))]) ((Bk p9 cs9 21) :: rowO 9 r) ([(w, fun _ => True)]) ?_
 dsimp only at hk hr hws hsz
 have hrl0 : (runes s).length ≤ s.size := runes_len s s.size 0 (by omega)
 refine Zs (Zs (Zr ?_))
 refine Xm ?_
 refine Xm ?_
 refine Xv (v := Vi ((runes s).length : Nat)) rfl (v_len_slice u100 rfl) ?_
 refine Xb rfl (v_lss rfl rfl) fun b13 hb13 => ?_
 refine Ze (Zt ?_)
 refine w_cond rfl (fun hc13 => ?_) fun hc13 => ?_
 ·simp only [hb13, Qz, ne_eq] at hc13
  have hkl : k < (runes s).length := by omega
  have hdr : (runes s).drop k = (runes s)[k] :: (runes s).drop (k + 1) := List.drop_eq_getElem_cons hkl
  rw [hdr] at hws hsz
  rw [wgt_cons] at hsz
  have hwl : ws.length ≤ s.size + 1 := by
   have h1 := wordsP_len s
   rw [← hws, List.length_append] at h1
   omega
  have hcell9 : cs9[k]? = some (Value.int .i32 ((runes s)[k] : Nat)) := by
   rw [← List.getElem?_take_of_lt hkl, hcs9]; exact runeC_at hkl
  have hrl := runes_le s _ (List.getElem_mem hkl)
  refine w_skip (Zt (Zs (w_block (Zs (Zr ?_)))))
  refine Xm ?_
  refine Xm ?_
  refine Xv rfl (v_indexAddr u100 sz21 rfl rfl (hkl) rfl) ?_
  refine Xl rfl u21 rfl (at_ownL (vs := cs9) (.head _) (by rw [Nat.zero_add, Nat.mul_one]; exact hcell9)) ?_
  refine x_callv rfl rfl rfl Tryz.func52 Zk rfl (fun w1 hw1 => k_Char (runes s)[k] hrl w1) ?_
  refine Xa ?_
  refine Ze (Zt (Zs (Zs (Zr ?_))))
  refine Xm ?_
  refine Xb rfl (v_sneq rfl rfl) fun b22 hb22 => ?_
  refine Ze (Zt ?_)
  refine w_cond rfl (fun hc22 => ?_) fun hc22 => ?_
  ·simp only [hb22, Qz, ne_eq] at hc22
   have hne : foldC (runes s)[k] ≠ spcB := hc22
   rw [wf_go hne] at hws
   refine Zs (Zr ?_)
   refine Xm ?_
   refine Xm ?_
   refine Xv rfl (v_sadd rfl rfl (by omega)) ?_
   refine Xa ?_
   refine Ze (Zt ?_)
   refine w_exit ?_
   refine t_exit ?_
   refine b_hit ?_
   refine Zt (Zr ?_)
   refine Xm ?_
   refine Xv rfl (v_addi rfl rfl rfl Zo) ?_
   refine Xa ?_
   refine Ze ?_
   exact l_norm (k + 1, r, ws, wd ++ foldC (runes s)[k]) ⟨hkl, hr, hws, by dsimp only; rw [ByteArray.size_append]; omega⟩ (by simp only; omega) Zu (fun _ h => h)
  simp only [hb22, Qz, ne_eq] at hc22
  have heq : foldC (runes s)[k] = spcB := hc22
  refine w_skip (Zt (Zs (Zs (Zr ?_))))
  refine Xm ?_
  refine Xb rfl (v_sneq rfl rfl) fun b27 hb27 => ?_
  refine Ze (Zt ?_)
  refine w_cond rfl (fun hc27 => ?_) fun hc27 => ?_
  ·simp only [hb27, Qz, ne_eq] at hc27
   have hw0 : wd.size ≠ 0 := fun h => hc27 (ba_nil.2 h)
   rw [wf_cut heq hw0] at hws
   refine Zr ?_
   refine Xm ?_
   refine Xm ?_
   refine x_buildSliceL (cs := [Value.string wd]) rfl rfl rfl u38 sz9 zr9 rfl rfl rfl ?_
   intro p30
   refine x_append (e := 9) [(p30, _), (p9, _)] (l2 := []) r (len := ws.length) (xs := ws.map Value.string) rfl rfl rfl rfl (by rw [List.append_nil]; rfl) hr u38 ap9 rfl rfl (m := 1) (news := [Value.string wd]) (fun i hi => at_ownL (vs := [Value.string wd]) (.head _) (by rw [Nat.zero_add]; exact List.getElem?_eq_getElem hi)) rfl Zx (by omega) fun r' hr' => ?_
   refine Xa ?_
   refine Ze (Zt (Zr ?_))
   refine Xa ?_
   refine Ze (b_norm (Zt (Zr ?_)))
   refine Xm ?_
   refine Xv rfl (v_addi rfl rfl rfl Zo) ?_
   refine Xa ?_
   refine Ze ?_
   exact l_norm (k + 1, r', ws ++ [wd], ⟨#[]⟩) ⟨hkl, by dsimp only; rw [strC_snoc, List.length_append]; exact hr', by dsimp only; rw [List.append_assoc]; exact hws, by show 0 + wgt ((runes s).drop (k + 1)) ≤ _; omega⟩ (by simp only; omega) (by dsimp only; rw [List.length_append]; exact Zu) (fun _ h => by
    have h2 := h.less (List.sublist_append_left _ _) (fun _ h => h)
    exact h2.less (List.sublist_cons_self _ _) (fun _ h => h))
  simp only [hb27, Qz, ne_eq] at hc27
  have hw0 : wd.size = 0 := ba_nil.1 (by simpa using hc27)
  rw [wf_blank heq hw0] at hws
  refine w_skip (Zt (Zr ?_))
  refine Xa ?_
  refine Ze (b_norm (Zt (Zr ?_)))
  refine Xm ?_
  refine Xv rfl (v_addi rfl rfl rfl Zo) ?_
  refine Xa ?_
  refine Ze ?_
  exact l_norm (k + 1, r, ws, ⟨#[]⟩) ⟨hkl, hr, hws, by show 0 + wgt ((runes s).drop (k + 1)) ≤ _; omega⟩ (by simp only; omega) Zu (fun _ h => h)
 simp only [hb13, Qz, ne_eq] at hc13
 obtain rfl : k = (runes s).length := by omega
 rw [List.drop_length, wf_stop] at hws
 have hwl : ws.length ≤ s.size + 1 := by
  have h1 := wordsP_len s
  rw [← hws, List.length_append] at h1
  omega
 refine w_exit ?_
 refine t_exit ?_
 refine t_exit ?_
 refine b_hit ?_
 refine Zt (Zs (Zs (Zr ?_)))
 refine Xm ?_
 refine Xb rfl (v_sneq rfl rfl) fun b33 hb33 => ?_
 refine Ze (Zt ?_)
 refine w_cond rfl (fun hc33 => ?_) fun hc33 => ?_
 ·simp only [hb33, Qz, ne_eq] at hc33
  have hw0 : wd.size ≠ 0 := fun h => hc33 (ba_nil.2 h)
  rw [if_neg hw0] at hws
  refine Zr ?_
  refine Xm ?_
  refine Xm ?_
  refine x_buildSliceL (cs := [Value.string wd]) rfl rfl rfl u38 sz9 zr9 rfl rfl rfl ?_
  intro p36
  refine x_append (e := 9) [(p36, _), (p9, _)] (l2 := []) r (len := ws.length) (xs := ws.map Value.string) rfl rfl rfl rfl (by rw [List.append_nil]; rfl) hr u38 ap9 rfl rfl (m := 1) (news := [Value.string wd]) (fun i hi => at_ownL (vs := [Value.string wd]) (.head _) (by rw [Nat.zero_add]; exact List.getElem?_eq_getElem hi)) rfl Zx (by omega) fun r' hr' => ?_
  refine Xa ?_
  refine Ze (Zt (Zs (Zr ?_)))
  refine Xm ?_
  refine Xa ?_
  refine Ze (Zt (w_ret ?_))
  exact ret1 rfl rfl (fun w' hm => ⟨r', by rw [← hws, List.length_append]; rfl, by rw [← hws, List.length_append, strC_snoc]; exact hr', by
   have h2 := hm.less (List.sublist_append_left _ _) (fun _ h => h)
   exact h2.less ((List.sublist_cons_self _ _).trans (List.sublist_cons_self _ _)) (fun _ h => h)⟩)
 simp only [hb33, Qz, ne_eq] at hc33
 have hw0 : wd.size = 0 := ba_nil.1 (by simpa using hc33)
 rw [if_pos hw0, List.append_nil] at hws
 refine w_skip (Zt (Zs (Zr ?_)))
 refine Xm ?_
 refine Xa ?_
 refine Ze (Zt (w_ret ?_))
 exact ret1 rfl rfl (fun w' hm => ⟨r, by rw [← hws], by rw [← hws]; exact hr, hm.less (List.sublist_cons_self _ _) (fun _ h => h)⟩)
theorem e_app (a : ByteArray) : (⟨#[]⟩ : ByteArray) ++ a = a := by
 apply ByteArray.ext
 simp
theorem join_step (xs : List ByteArray) {k : Nat} (h : k < xs.length) : (joinS (xs.take k)).size ≤ (joinS (xs.take (k + 1))).size := by
 rw [List.take_succ_eq_append_getElem h, joinS_snoc]
 split
 ·rename_i h1; rw [h1]; exact Nat.zero_le _
 rw [ByteArray.size_append, ByteArray.size_append]; omega
theorem join_mono (xs : List ByteArray) : ∀ n k, k + n = xs.length → (joinS (xs.take k)).size ≤ (joinS xs).size
 | 0, k, h => by rw [List.take_of_length_le (by omega)]; exact Nat.le_refl _
 | n + 1, k, h => Nat.le_trans (join_step xs (by omega)) (join_mono xs n (k + 1) (by omega))
set_option maxHeartbeats 1000000 in
theorem r_Join {xs : List ByteArray} {r : RowS} (w : World) (hr : PK.rowR 9 1 (fun x : ByteArray => [Value.string x]) r xs w) (hl : xs.length ≤ 100000000) (hj : (joinS xs).size ≤ 100000000000) :
  Calls Tryz.prog 53 #[rowV r xs.length] w fun e w' => e = .returned (.string (joinS xs)) ∧ Later w w' := by
 refine enter (vs := [rowV r xs.length]) Tryz.func53 rfl Tryz.ntmps53 rfl ?_
 refine Zs (Zr ?_)
 refine Xa ?_
 refine Ze (Zt (Zs (Zr ?_)))
 refine Xa ?_
 refine Ze (Zt (Zs (Zs (Zr ?_))))
 refine Xa ?_
 refine Ze (Zt (w_block ?_))
 refine w_loop (σ := Nat) (fun k => k ≤ xs.length) (fun k => [(0, rowV r xs.length), (3, Value.string (joinS (xs.take k))), (4, Vi (k : Nat))]) (fun k => []) (fun k => [(w, fun _ => True)]) (fun k => xs.length - k) (0) (Nat.zero_le _) (l_start Zu (fun _ h => h)) ?_
 rintro k hk
 refine w_state ([(0, rowV r xs.length), (3, Value.string (joinS (xs.take k))), (4, Vi (k : Nat))]) ([]) ([(w, fun _ => True)]) ?_
 refine Zs (Zs (Zr ?_))
 refine Xm ?_
 refine Xm ?_
 refine Xv (v := Vi (xs.length : Nat)) rfl (v_len_slice u38 rfl) ?_
 refine Xb rfl (v_lss rfl rfl) fun b8 hb8 => ?_
 refine Ze (Zt ?_)
 refine w_cond rfl (fun hc8 => ?_) fun hc8 => ?_
 ·simp only [hb8, Qz, ne_eq] at hc8
  have hkl : k < xs.length := by omega
  obtain ⟨g, cs, cp, hRg, hcp, hcl⟩ := hr.cells (c := (fun x : ByteArray => [Value.string x])) (m := 1) (fun _ => rfl) (by decide) hkl
  have hst : joinS (xs.take (k + 1)) = if k = 0 then xs[k] else joinS (xs.take k) ++ spcB ++ xs[k] := by
   rw [List.take_succ_eq_append_getElem hkl, joinS_snoc]
   by_cases h : k = 0
   ·subst h; rfl
   rw [if_neg h, if_neg (fun e => h (by have := congrArg List.length e; simpa [List.length_take, Nat.min_eq_left (Nat.le_of_lt hkl)] using this))]
  have hz1 := join_mono xs (xs.length - k) k (by omega)
  have hz2 := join_mono xs (xs.length - (k + 1)) (k + 1) (by omega)
  have hz3 : (spcB : ByteArray).size = 1 := rfl
  refine w_skip (Zt (Zs (w_block (Zs (Zs (Zr ?_))))))
  refine Xm ?_
  refine Xb rfl (v_gtr rfl rfl) fun b12 hb12 => ?_
  refine Ze (Zt ?_)
  refine w_cond rfl (fun hc12 => ?_) fun hc12 => ?_
  ·simp only [hb12, Qz, ne_eq] at hc12
   rw [if_neg (show ¬k = 0 by omega)] at hst
   have hz4 := congrArg ByteArray.size hst
   rw [ByteArray.size_append, ByteArray.size_append] at hz4
   refine Zr ?_
   refine Xm ?_
   refine Xv (v := Value.string (joinS (xs.take k) ++ spcB)) rfl (v_sadd rfl rfl (by show (joinS (xs.take k)).size + spcB.size ≤ _; omega)) ?_
   refine Xa ?_
   refine Ze (Zt (Zr ?_))
   refine Xm ?_
   refine Xm ?_
   refine Xm ?_
   refine Xv rfl (v_indexAddr u38 sz9 (congrArg (fun R => some (rowV R xs.length)) hRg) rfl (hkl) rfl) ?_
   refine Xl rfl u9 rfl (at_ro (.head _) trivial (v := Value.string xs[k]) (by rw [Nat.zero_add]; exact hcl 0 (by decide))) ?_
   refine Xv rfl (v_sadd rfl rfl (by first | omega | (rw [ByteArray.size_append]; omega))) ?_
   refine Xa ?_
   refine Ze (b_norm (Zt (Zr ?_)))
   refine Xm ?_
   refine Xv rfl (v_addi rfl rfl rfl Zo) ?_
   refine Xa ?_
   refine Ze ?_
   exact l_norm (k + 1) hkl (by omega) (by rw [hst]; exact Zu) (fun _ h => h)
  simp only [hb12, Qz, ne_eq] at hc12
  have hk0 : k = 0 := by omega
  rw [if_pos hk0] at hst
  have hst2 : joinS (xs.take (k + 1)) = joinS (xs.take k) ++ xs[k] := by
   rw [hst]
   have e0 : joinS (xs.take k) = ⟨#[]⟩ := by subst hk0; rfl
   rw [e0, e_app]
  have hz4 := congrArg ByteArray.size hst2
  rw [ByteArray.size_append] at hz4
  refine w_skip (Zt (Zr ?_))
  refine Xm ?_
  refine Xm ?_
  refine Xm ?_
  refine Xv rfl (v_indexAddr u38 sz9 (congrArg (fun R => some (rowV R xs.length)) hRg) rfl (hkl) rfl) ?_
  refine Xl rfl u9 rfl (at_ro (.head _) trivial (v := Value.string xs[k]) (by rw [Nat.zero_add]; exact hcl 0 (by decide))) ?_
  refine Xv rfl (v_sadd rfl rfl (by first | omega | (rw [ByteArray.size_append]; omega))) ?_
  refine Xa ?_
  refine Ze (b_norm (Zt (Zr ?_)))
  refine Xm ?_
  refine Xv rfl (v_addi rfl rfl rfl Zo) ?_
  refine Xa ?_
  refine Ze ?_
  exact l_norm (k + 1) hkl (by omega) (by rw [hst2]; exact Zu) (fun _ h => h)
 simp only [hb8, Qz, ne_eq] at hc8
 obtain rfl : k = xs.length := by omega
 refine w_exit ?_
 refine t_exit ?_
 refine t_exit ?_
 refine b_hit ?_
 refine Zt (Zs (Zr ?_))
 refine Xm ?_
 refine Xa ?_
 refine Ze (Zt (w_ret ?_))
 refine ret1 rfl rfl (fun w' hm => ⟨?_, hm.base (by simp)⟩)
 rw [List.take_length]
theorem r_Fold (s : ByteArray) (w : World) (hs : s.size ≤ 4000000) :
  Calls Tryz.prog 22 #[.string s] w fun e w' => e = .returned (.string (foldS s)) ∧ Later w w' := by
 refine enter (vs := [.string s]) Tryz.func22 rfl Tryz.ntmps22 rfl ?_
 refine Zs (Zr ?_)
 refine Xa ?_
 refine Ze (Zt (Zs (Zr ?_)))
 refine Xm ?_
 refine x_own (τ := RowS) (fun r => rowV r (wordsP s).length) (fun r => rowOK 1 r (wordsP s).length ((wordsP s).map Value.string)) (fun r => rowO 9 r) rfl rfl rfl Tryz.func21 Zk rfl (fun w1 hw1 => (r_Words s w1 hs).mono fun e w2 ⟨r, h1, h2, h3⟩ => ⟨r, h1, h3.base (by simp), h2, hw1.join h3⟩) fun r hr => ?_
 refine x_callv (v := Value.string (foldS s)) rfl rfl rfl Tryz.func53 Zk rfl (fun w1 hw1 => r_Join w1 (hw1.rowR (by rw [flat1]; exact hr) (fun q hq => hq)) (by have := wordsP_len s; omega) (by have := foldS_size s; unfold foldS at this; omega)) ?_
 refine Xa ?_
 refine Ze (Zt (w_ret ?_))
 refine ret1 rfl rfl (fun w' hm => ⟨?_, hm.base (by simp)⟩)
 rfl
open Go.RowKit Go.PK
set_option maxHeartbeats 1000000 in
theorem r_Right (x : FD) (w : World) (hs : x.txt.size ≤ 4000000) :
  Calls Tryz.prog 55 #[Value.agg x.cells.toArray] w fun e w' => e = .returned (.bool (decide (rightF x))) ∧ Later w w' := by
 refine enter (vs := [Value.agg x.cells.toArray]) Tryz.func55 rfl Tryz.ntmps55 rfl ?_
 refine Zs (Zr ?_)
 refine x_box rfl rfl rfl rfl ?_
 intro p1
 refine Xa ?_
 refine Ze (Zt (Zs (Zs (Zr ?_))))
 refine Xf 0 rfl u28 rfl sz3 ?_
 refine Xl rfl u3 rfl (at_ownL (vs := x.cells) (.head _) rfl) ?_
 refine Xb rfl (v_lss rfl rfl) fun b6 hb6 => ?_
 refine Xm ?_
 refine Xi rfl rfl rfl (fun hg0 => by subst hg0; (try simp only [Qy]); exact v_fieldAddr (off' := 1) u28 rfl sz3 (by decide) rfl rfl) ?_
 refine Xi rfl rfl rfl (fun hg0 => by subst hg0; (try simp only [Qy]); exact v_load u3 rfl rfl (at_ownL (vs := x.cells) (.head _) rfl)) ?_
 refine Xj rfl rfl rfl (fun hg0 => by subst hg0; (try simp only [Qy]); exact v_lss rfl rfl) fun b10 hb10 => ?_
 refine Xb rfl (v_or rfl rfl) fun b11 hb11 => ?_
 refine Xm ?_
 refine Xi rfl rfl rfl (fun hg0 => by subst hg0; (try simp only [Qy]); exact v_fieldAddr (off' := 3) u28 rfl sz3 (by decide) rfl rfl) ?_
 refine Xi rfl rfl rfl (fun hg0 => by subst hg0; (try simp only [Qy]); exact v_load u3 rfl rfl (at_ownL (vs := x.cells) (.head _) rfl)) ?_
 refine Xj rfl rfl rfl (fun hg0 => by subst hg0; (try simp only [Qy]); exact v_lss rfl rfl) fun b15 hb15 => ?_
 refine Xb rfl (v_or rfl rfl) fun b16 hb16 => ?_
 refine Xm ?_
 refine Xi rfl rfl rfl (fun hg0 => by subst hg0; (try simp only [Qy]); exact v_fieldAddr (off' := 2) u28 rfl sz3 (by decide) rfl rfl) ?_
 refine Xi rfl rfl rfl (fun hg0 => by subst hg0; (try simp only [Qy]); exact v_load u3 rfl rfl (at_ownL (vs := x.cells) (.head _) rfl)) ?_
 refine Xj rfl rfl rfl (fun hg0 => by subst hg0; (try simp only [Qy]); exact v_lss rfl rfl) fun b20 hb20 => ?_
 refine Xb rfl (v_or rfl rfl) fun b21 hb21 => ?_
 refine Xm ?_
 refine Xi rfl rfl rfl (fun hg0 => by subst hg0; (try simp only [Qy]); exact v_fieldAddr (off' := 2) u28 rfl sz3 (by decide) rfl rfl) ?_
 refine Xi rfl rfl rfl (fun hg0 => by subst hg0; (try simp only [Qy]); exact v_load u3 rfl rfl (at_ownL (vs := x.cells) (.head _) rfl)) ?_
 refine Xj rfl rfl rfl (fun hg0 => by subst hg0; (try simp only [Qy]); exact v_gtr rfl rfl) fun b25 hb25 => ?_
 refine Xb rfl (v_or rfl rfl) fun b26 hb26 => ?_
 refine Ze (Zt ?_)
 refine w_cond rfl (fun hc26 => ?_) fun hc26 => ?_
 ·simp only [hb26, hb25, hb21, hb20, hb16, hb15, hb11, hb10, hb6, Qz, ne_eq] at hc26
  refine Zs (Zr ?_)
  refine Xa ?_
  refine Ze (Zt (w_ret (t_ret ?_)))
  refine ret1 rfl rfl (fun w' hm => ⟨?_, hm.base (by simp)⟩)
  refine congrArg (fun b => Ending.returned (Value.bool b)) ?_
  have hwl : wordsP x.txt ≠ [] ↔ 0 < (wordsP x.txt).length := List.length_pos_iff.symm
  first | rw [hb46, hb45, hb41, Bool.eq_iff_iff] | rw [hb36, Bool.eq_iff_iff] | rw [hb49, Bool.eq_iff_iff] | rw [Bool.eq_iff_iff]
  simp only [Bool.and_eq_true, decide_eq_true_eq, Bool.false_eq_true]
  unfold rightF
  rw [hwl]
  first | omega | (rw [false_iff]; omega)
 simp only [hb26, hb25, hb21, hb20, hb16, hb15, hb11, hb10, hb6, Qz, ne_eq] at hc26
 refine w_skip (Zt (Zs (Zr ?_)))
 refine Xf 5 rfl u28 rfl sz9 ?_
 refine Xl rfl u9 rfl (at_ownL (vs := x.cells) (.head _) rfl) ?_
 refine x_own (τ := RowS) (fun r => rowV r (wordsP x.txt).length) (fun r => rowOK 1 r (wordsP x.txt).length ((wordsP x.txt).map Value.string)) (fun r => rowO 9 r ++ [(Bk p1 x.cells 28)]) rfl rfl rfl Tryz.func21 Zk rfl (fun w1 hw1 => (r_Words x.txt w1 hs).mono fun e w2 ⟨r, h1, h2, h3⟩ => ⟨r, h1, h3.base (by simp), h2, hw1.join2 h3⟩) fun r hr => ?_
 refine Xa ?_
 refine Ze (Zt (Zs (Zs (Zr ?_))))
 refine Xf 2 rfl u28 rfl sz3 ?_
 refine Xl rfl u3 rfl (at_ownL (vs := x.cells) (List.mem_append_right _ (.head _)) rfl) ?_
 refine Ze (Zt (w_block (Zs (Zr ?_))))
 refine Xb rfl (v_eql rfl rfl) fun b33 hb33 => ?_
 refine Xa ?_
 refine Ze (Zt ?_)
 refine w_cond rfl (fun hc32 => ?_) fun hc32 => ?_
 ·simp only [hb33, Qz, ne_eq] at hc32
  refine Zs (Zr ?_)
  refine Xf 4 rfl u28 rfl sz3 ?_
  refine Xl rfl u3 rfl (at_ownL (vs := x.cells) (List.mem_append_right _ (.head _)) rfl) ?_
  refine Xb rfl (v_geq rfl rfl) fun b36 hb36 => ?_
  refine Xa ?_
  refine Ze (Zt (w_ret (b_ret (t_ret ?_))))
  refine ret1 rfl rfl (fun w' hm => ⟨?_, hm.base (by simp)⟩)
  refine congrArg (fun b => Ending.returned (Value.bool b)) ?_
  have hwl : wordsP x.txt ≠ [] ↔ 0 < (wordsP x.txt).length := List.length_pos_iff.symm
  first | rw [hb46, hb45, hb41, Bool.eq_iff_iff] | rw [hb36, Bool.eq_iff_iff] | rw [hb49, Bool.eq_iff_iff] | rw [Bool.eq_iff_iff]
  simp only [Bool.and_eq_true, decide_eq_true_eq, Bool.false_eq_true]
  unfold rightF
  rw [hwl]
  first | omega | (rw [false_iff]; omega)
 simp only [hb33, Qz, ne_eq] at hc32
 refine Zs (Zr ?_)
 refine Xb rfl (v_eql rfl rfl) fun b38 hb38 => ?_
 refine Xa ?_
 refine Ze (Zt ?_)
 refine w_cond rfl (fun hc37 => ?_) fun hc37 => ?_
 ·simp only [hb38, Qz, ne_eq] at hc37
  refine Zs (Zr ?_)
  refine Xf 4 rfl u28 rfl sz3 ?_
  refine Xl rfl u3 rfl (at_ownL (vs := x.cells) (List.mem_append_right _ (.head _)) rfl) ?_
  refine Xb rfl (v_geq rfl rfl) fun b41 hb41 => ?_
  refine Xm ?_
  refine Xg ?_
  refine x_if [] rfl rfl rfl rfl rfl (v := Vi ((wordsP x.txt).length : Nat)) (fun hg => by obtain ⟨hg0, _⟩ := hg; subst hg0; (try simp only [Qy]); exact v_len_slice u38 rfl) ?_
  refine Xj rfl rfl rfl (fun hg0 => by subst hg0; (try simp only [Qy]); exact v_eql rfl rfl) fun b45 hb45 => ?_
  refine Xb rfl (v_and rfl rfl) fun b46 hb46 => ?_
  refine Xa ?_
  refine Ze (Zt (w_ret (b_ret (t_ret ?_))))
  refine ret1 rfl rfl (fun w' hm => ⟨?_, hm.base (by simp)⟩)
  refine congrArg (fun b => Ending.returned (Value.bool b)) ?_
  have hwl : wordsP x.txt ≠ [] ↔ 0 < (wordsP x.txt).length := List.length_pos_iff.symm
  first | rw [hb46, hb45, hb41, Bool.eq_iff_iff] | rw [hb36, Bool.eq_iff_iff] | rw [hb49, Bool.eq_iff_iff] | rw [Bool.eq_iff_iff]
  simp only [Bool.and_eq_true, decide_eq_true_eq, Bool.false_eq_true]
  unfold rightF
  rw [hwl]
  first | omega | (rw [false_iff]; omega)
 simp only [hb38, Qz, ne_eq] at hc37
 refine w_skip (b_norm (Zt (Zs (Zr ?_))))
 refine Xm ?_
 refine Xv (v := Vi ((wordsP x.txt).length : Nat)) rfl (v_len_slice u38 rfl) ?_
 refine Xb rfl (v_gtr rfl rfl) fun b49 hb49 => ?_
 refine Xa ?_
 refine Ze (Zt (w_ret ?_))
 refine ret1 rfl rfl (fun w' hm => ⟨?_, hm.base (by simp)⟩)
 refine congrArg (fun b => Ending.returned (Value.bool b)) ?_
 have hwl : wordsP x.txt ≠ [] ↔ 0 < (wordsP x.txt).length := List.length_pos_iff.symm
 first | rw [hb46, hb45, hb41, Bool.eq_iff_iff] | rw [hb36, Bool.eq_iff_iff] | rw [hb49, Bool.eq_iff_iff] | rw [Bool.eq_iff_iff]
 simp only [Bool.and_eq_true, decide_eq_true_eq, Bool.false_eq_true]
 unfold rightF
 rw [hwl]
 first | omega | (rw [false_iff]; omega)
theorem r_before (a c : FD) (w : World) :
  Calls Tryz.prog 56 #[Value.agg a.cells.toArray, Value.agg c.cells.toArray] w fun e w' => e = .returned (.bool (decide (befF a c))) ∧ Later w w' := by
 refine enter (vs := [Value.agg a.cells.toArray, Value.agg c.cells.toArray]) Tryz.func56 rfl Tryz.ntmps56 rfl ?_
 refine Zs (Zr ?_)
 refine x_box rfl rfl rfl rfl ?_
 intro p2
 refine x_box rfl rfl rfl rfl ?_
 intro p3
 refine Xa ?_
 refine Ze (Zt (Zs (Zs (Zr ?_))))
 refine Xf 1 rfl u28 rfl sz3 ?_
 refine Xl rfl u3 rfl (at_ownL (vs := a.cells) (.tail _ (.head _)) rfl) ?_
 refine Xf 1 rfl u28 rfl sz3 ?_
 refine Xl rfl u3 rfl (at_ownL (vs := c.cells) (.head _) rfl) ?_
 refine Xb rfl (v_neq rfl rfl) fun b9 hb9 => ?_
 refine Ze (Zt ?_)
 refine w_cond rfl (fun hc9 => ?_) fun hc9 => ?_
 ·simp only [hb9, Qz, ne_eq] at hc9
  refine Zs (Zr ?_)
  refine Xf 1 rfl u28 rfl sz3 ?_
  refine Xl rfl u3 rfl (at_ownL (vs := a.cells) (.tail _ (.head _)) rfl) ?_
  refine Xf 1 rfl u28 rfl sz3 ?_
  refine Xl rfl u3 rfl (at_ownL (vs := c.cells) (.head _) rfl) ?_
  refine Xb rfl (v_lss rfl rfl) fun b14 hb14 => ?_
  refine Xa ?_
  refine Ze (Zt (w_ret (t_ret ?_)))
  refine ret1 rfl rfl (fun w' hm => ⟨?_, hm.base (by simp)⟩)
  refine congrArg (fun b => Ending.returned (Value.bool b)) ?_
  rw [hb14, decide_eq_decide]
  unfold befF
  omega
 simp only [hb9, Qz, ne_eq] at hc9
 refine w_skip (Zt (Zs (Zr ?_)))
 refine Xf 0 rfl u28 rfl sz3 ?_
 refine Xl rfl u3 rfl (at_ownL (vs := a.cells) (.tail _ (.head _)) rfl) ?_
 refine Xf 0 rfl u28 rfl sz3 ?_
 refine Xl rfl u3 rfl (at_ownL (vs := c.cells) (.head _) rfl) ?_
 refine Xb rfl (v_lss rfl rfl) fun b19 hb19 => ?_
 refine Xa ?_
 refine Ze (Zt (w_ret ?_))
 refine ret1 rfl rfl (fun w' hm => ⟨?_, hm.base (by simp)⟩)
 refine congrArg (fun b => Ending.returned (Value.bool b)) ?_
 rw [hb19, decide_eq_decide]
 unfold befF
 omega
open Go.RowKit Go.PK
theorem take_ins {fs : List FD} {x : FD} (hr : rightF x) (hk : knwF fs x = false) (hm : ¬5000 ≤ fs.length) : takeF fs x = (0, insF fs x) := by
 have hn := knw_no hk
 unfold takeF
 rw [if_neg (fun h => h hr), if_neg (fun h => hn x h ⟨rfl, rfl⟩), if_neg (fun ⟨y, hy, he⟩ => hn y hy he), if_neg hm]
set_option maxHeartbeats 2000000 in
theorem r_Take {pm : Nat} {M : RowS} {fs : List FD} {f : FD} {L : List (Nat × Obj)} {ro : List Snap} {w : World} (hM : rowOK 6 M fs.length (fdsC fs)) (hok : FsOK fs) (hsz : f.txt.size ≤ 4000000) (hm : Mem w ((Bk pm [rowV M fs.length] 48) :: (rowO 28 M ++ L)) ro) :
  Calls Tryz.prog 25 #[Pt pm, Value.agg f.cells.toArray] w fun e w' => e = .returned (Vi (takeF fs f).1) ∧ ∃ M', rowOK 6 M' (takeF fs f).2.length (fdsC (takeF fs f).2) ∧ Mem w' ((Bk pm [rowV M' (takeF fs f).2.length] 48) :: (rowO 28 M' ++ L)) ro := by
 refine enter_in hm (vs := [Pt pm, Value.agg f.cells.toArray]) Tryz.func25 rfl Tryz.ntmps25 rfl ?_
 refine Zs (Zr ?_)
 refine x_box rfl rfl rfl rfl ?_
 intro p3
 refine Xa ?_
 refine Ze (Zt (Zs (Zr ?_)))
 refine Xv rfl (v_load_blk u28 rfl rfl (.head _) (by exact sz28)) ?_
 refine x_callb rfl rfl rfl Tryz.func55 Zk rfl (fun w1 hw1 => r_Right f w1 hsz) fun b11 hb11 => ?_
 refine Xa ?_
 refine Ze (Zt (Zs (Zs (Zr ?_))))
 refine Xm ?_
 refine Xb rfl (v_not rfl) fun b13 hb13 => ?_
 refine Ze (Zt ?_)
 refine w_cond rfl (fun hc13 => ?_) fun hc13 => ?_
 ·simp only [hb13, hb11, Qz, ne_eq] at hc13
  have hnr : ¬rightF f := by simpa [hb11] using hc13
  refine Zs (Zr ?_)
  refine Xa ?_
  refine Ze (Zt (w_ret (t_ret ?_)))
  rw [take_arg hnr]
  exact ret1 rfl rfl (fun w' hm' => ⟨rfl, M, hM, hm'.less (List.sublist_cons_self _ _) (fun _ h => h)⟩)
 simp only [hb13, hb11, Qz, ne_eq] at hc13
 have hrt : rightF f := by simpa [hb11] using hc13
 have hle := hok.len
 refine w_skip (Zt (Zs (Zs (Zr ?_))))
 refine Xa ?_
 refine Ze (Zt (w_block ?_))
 refine w_loop (σ := Nat) (fun k => k ≤ fs.length ∧ ∀ j (h : j < fs.length), j < k → ¬(fs[j].num = f.num ∧ fs[j].ag = f.ag)) (fun k => [(0, Pt pm), (3, Pt p3), (6, Vi (k : Nat))]) (fun k => (Bk p3 f.cells 28) :: (Bk pm [rowV M fs.length] 48) :: (rowO 28 M ++ L)) (fun k => ro) (fun k => fs.length - k) (0) (⟨Nat.zero_le _, by intros; omega⟩) (l_start Zu (fun _ h => h)) ?_
 rintro k ⟨hk, hno⟩
 refine w_state ([(0, Pt pm), (3, Pt p3), (6, Vi (k : Nat))]) ((Bk p3 f.cells 28) :: (Bk pm [rowV M fs.length] 48) :: (rowO 28 M ++ L)) (ro) ?_
 refine Zs (Zs (Zr ?_))
 refine Xm ?_
 refine Xm ?_
 refine Xn ?_
 refine Xf 0 rfl u48 rfl sz24 ?_
 refine Xl rfl u24 rfl (at_ownL (vs := [rowV M fs.length]) (.tail _ (.head _)) rfl) ?_
 refine Xv (v := Vi (fs.length : Nat)) rfl (v_len_slice u24 rfl) ?_
 refine Xb rfl (v_lss rfl rfl) fun b20 hb20 => ?_
 refine Ze (Zt ?_)
 refine w_cond rfl (fun hc20 => ?_) fun hc20 => ?_
 ·simp only [hb20, Qz, ne_eq] at hc20
  have hkl : k < fs.length := by omega
  obtain ⟨g, cs, c, hRg, hcp, hcl⟩ := fd_cell hM hkl
  refine w_skip (Zt (Zs (w_block (Zs (Zs ?_)))))
  refine rg_draw 9 [(true, 0), (true, 1), (true, 2), (true, 3), (true, 4), (true, 5), (true, 6), (true, 7), (true, 8)] Zk Zk ?_
  refine Xm ?_
  refine Xn ?_
  refine Xf 0 rfl u48 rfl sz24 ?_
  refine Xl rfl u24 rfl (at_ownL (vs := [rowV M fs.length]) (.tail _ (.head _)) rfl) ?_
  refine Xm ?_
  refine Xv rfl (v_indexAddr u24 sz28 (congrArg (fun R => some (rowV R fs.length)) hRg) rfl (hkl) rfl) ?_
  refine Xv rfl (v_loadN (vs := fs[k].cells) u28 rfl sz28 rfl (fun i hi => at_ownL (vs := cs) (.tail _ (.tail _ (List.mem_append_left _ (by rw [hRg]; exact .head _)))) (by rw [Nat.zero_add]; exact (hcl i hi).trans (List.getElem?_eq_getElem hi)))) ?_
  refine Xv rfl (v_load_blk u28 rfl rfl (.head _) (by exact sz28)) ?_
  refine Xb rfl (v_eqA Zk rfl rfl (fun w1 => eqFD w1 fs[k] f)) fun b31 hb31 => ?_
  refine Ze (Zt ?_)
  refine w_cond rfl (fun hc31 => ?_) fun hc31 => ?_
  ·simp only [hb31, Qz, ne_eq] at hc31
   have hfk : fs[k] = f := by simpa using hc31
   refine Zs (Zr ?_)
   refine Xa ?_
   refine Ze (Zt (w_ret (t_ret (b_ret (t_ret (t_ret (b_ret (t_ret ?_))))))))
   rw [take_twice hrt (by rw [← hfk]; exact List.getElem_mem hkl)]
   exact ret1 rfl rfl (fun w' hm' => ⟨rfl, M, hM, hm'.less (List.sublist_cons_self _ _) (fun _ h => h)⟩)
  simp only [hb31, Qz, ne_eq] at hc31
  have hfk : ¬fs[k] = f := by simpa using hc31
  refine w_skip (Zt (Zs ?_))
  refine rg_draw 24 [(true, 0), (true, 1), (true, 2), (true, 3), (true, 4), (true, 5), (true, 6), (true, 7), (true, 8), (true, 9), (true, 10), (true, 11), (true, 12), (true, 13), (true, 14), (true, 15), (true, 16), (true, 17), (true, 18), (true, 19), (true, 20), (true, 21), (true, 22), (true, 23)] Zk Zk ?_
  refine Xm ?_
  refine Xn ?_
  refine Xf 0 rfl u48 rfl sz24 ?_
  refine Xl rfl u24 rfl (at_ownL (vs := [rowV M fs.length]) (.tail _ (.head _)) rfl) ?_
  refine Xm ?_
  refine Xv rfl (v_indexAddr u24 sz28 (congrArg (fun R => some (rowV R fs.length)) hRg) rfl (hkl) rfl) ?_
  refine Xf _ rfl u28 rfl sz3 ?_
  refine Xl rfl u3 rfl (at_ownL (vs := cs) (v := Vi fs[k].num) (.tail _ (.tail _ (List.mem_append_left _ (by rw [hRg]; exact .head _)))) (by show cs[0 + k * 6 + 1]? = _; rw [Nat.zero_add]; exact hcl 1 (by decide))) ?_
  refine Xf 1 rfl u28 rfl sz3 ?_
  refine Xl rfl u3 rfl (at_ownL (vs := f.cells) (.head _) rfl) ?_
  refine Xb rfl (v_eql rfl rfl) fun b42 hb42 => ?_
  refine Xm ?_
  refine Xg ?_
  refine Xi rfl rfl rfl (fun hg0 => by subst hg0; (try simp only [Qy]); exact v_nilCheck rfl) ?_
  refine Xi rfl rfl rfl (fun hg0 => by subst hg0; (try simp only [Qy]); exact v_fieldAddr (off' := 0) u48 rfl sz24 (by decide) rfl rfl) ?_
  refine Xi rfl rfl rfl (fun hg0 => by subst hg0; (try simp only [Qy]); exact v_load u24 rfl rfl (at_ownL (vs := [rowV M fs.length]) (.tail _ (.head _)) rfl)) ?_
  refine Xg ?_
  refine Xi rfl rfl rfl (fun hg0 => by subst hg0; (try simp only [Qy]); exact v_indexAddr u24 sz28 (congrArg (fun R => some (rowV R fs.length)) hRg) rfl (hkl) rfl) ?_
  refine Xi rfl rfl rfl (fun hg0 => by subst hg0; (try simp only [Qy]); exact v_fieldAddr u28 rfl sz3 (by decide) rfl rfl) ?_
  refine x_if [] rfl rfl rfl rfl rfl (v := Vi fs[k].ag) (fun hg => by obtain ⟨hg0, _⟩ := hg; subst hg0; (try simp only [Qy]); exact v_load u3 rfl rfl (at_ownL (vs := cs) (v := Vi fs[k].ag) (.tail _ (.tail _ (List.mem_append_left _ (by rw [hRg]; exact .head _)))) (by show cs[0 + k * 6 + 0]? = _; rw [Nat.zero_add]; exact hcl 0 (by decide)))) ?_
  refine Xi rfl rfl rfl (fun hg0 => by subst hg0; (try simp only [Qy]); exact v_fieldAddr (off' := 0) u28 rfl sz3 (by decide) rfl rfl) ?_
  refine Xi rfl rfl rfl (fun hg0 => by subst hg0; (try simp only [Qy]); exact v_load u3 rfl rfl (at_ownL (vs := f.cells) (.head _) rfl)) ?_
  refine Xj rfl rfl rfl (fun hg0 => by subst hg0; (try simp only [Qy]); exact v_eql rfl rfl) fun b54 hb54 => ?_
  refine Xb rfl (v_and rfl rfl) fun b55 hb55 => ?_
  refine Ze (Zt ?_)
  refine w_cond rfl (fun hc55 => ?_) fun hc55 => ?_
  ·simp only [hb55, hb54, hb42, Qz, ne_eq] at hc55
   have hkey : fs[k].num = f.num ∧ fs[k].ag = f.ag := by simpa using hc55
   refine Zs (Zr ?_)
   refine Xa ?_
   refine Ze (Zt (w_ret (b_ret (t_ret (t_ret (b_ret (t_ret ?_)))))))
   rw [take_old hrt (fun hf => hfk (srtF8_key hok.srt (List.getElem_mem hkl) hf hkey)) (List.any_eq_true.2 ⟨_, List.getElem_mem hkl, decide_eq_true hkey⟩)]
   exact ret1 rfl rfl (fun w' hm' => ⟨rfl, M, hM, hm'.less (List.sublist_cons_self _ _) (fun _ h => h)⟩)
  simp only [hb55, hb54, hb42, Qz, ne_eq] at hc55
  have hkey : ¬(fs[k].num = f.num ∧ fs[k].ag = f.ag) := fun h => by simp [h.1, h.2] at hc55
  refine w_skip (b_norm (Zt (Zr ?_)))
  refine Xm ?_
  refine Xv rfl (v_addi rfl rfl rfl Zo) ?_
  refine Xa ?_
  refine Ze ?_
  exact l_norm (k + 1) ⟨by omega, fun j h hjk => by rcases Nat.lt_succ_iff_lt_or_eq.1 hjk with h2 | rfl; (· exact hno j h h2); exact hkey⟩ (by omega) Zu (fun _ h => h)
 simp only [hb20, Qz, ne_eq] at hc20
 obtain rfl : k = fs.length := by omega
 have hkn : knwF fs f = false := by
  unfold knwF
  rw [List.any_eq_false]
  intro y hy
  obtain ⟨j, hj, rfl⟩ := List.getElem_of_mem hy
  simpa using hno j hj hj
 refine w_exit ?_
 refine t_exit ?_
 refine t_exit ?_
 refine b_hit ?_
 refine Zt (Zs (Zs (Zr ?_)))
 refine Xm ?_
 refine Xn ?_
 refine Xf 0 rfl u48 rfl sz24 ?_
 refine Xl rfl u24 rfl (at_ownL (vs := [rowV M fs.length]) (.tail _ (.head _)) rfl) ?_
 refine Xv (v := Vi (fs.length : Nat)) rfl (v_len_slice u24 rfl) ?_
 refine Xb rfl (v_geq rfl rfl) fun b61 hb61 => ?_
 refine Ze (Zt ?_)
 refine w_cond rfl (fun hc61 => ?_) fun hc61 => ?_
 ·simp only [hb61, Qz, ne_eq] at hc61
  skip
  refine Zs (Zr ?_)
  refine Xa ?_
  refine Ze (Zt (w_ret (t_ret ?_)))
  rw [take_many hrt hkn (by omega)]
  exact ret1 rfl rfl (fun w' hm' => ⟨rfl, M, hM, hm'.less (List.sublist_cons_self _ _) (fun _ h => h)⟩)
 simp only [hb61, Qz, ne_eq] at hc61
 skip
 refine w_skip (Zt (Zs ?_))
 refine rg_inv ([(Bk p3 f.cells 28), (Bk pm [rowV M fs.length] 48)]) 10 (.flt 0 (.flt 1 (.flt 2 (.flt 3 (.flt 4 (.flt 5 (.gr 6 (.gr 7 (.flt 8 (.flt 9 .done)) .nil) .nil))))))) (((List.nil_sublist _).cons_cons _).cons_cons _) Zk Zk ?_
 refine j_val rfl rfl (v_move rfl) ?_
 refine j_val rfl rfl (v_move rfl) ?_
 refine j_val rfl rfl (v_nilCheck rfl) ?_
 refine j_val rfl rfl (v_fieldAddr (off' := 0) u48 rfl sz24 (by decide) rfl rfl) ?_
 refine j_val rfl rfl (v_load u24 rfl rfl (at_ownL (vs := [rowV M fs.length]) (.tail _ (.head _)) rfl)) ?_
 refine j_val rfl rfl (v_load_blk u28 rfl rfl (.head _) (by exact sz28)) ?_
 refine j_gr ?_ j_nil
 refine x_buildSliceL (cs := f.cells) rfl rfl rfl u24 sz28 zr28 rfl rfl rfl ?_
 intro p68
 refine Ze ?_
 refine j_end ((((List.nil_sublist _).cons_cons _).cons_cons _).cons _) ?_
 refine j_gr ?_ j_nil
 refine x_append (e := 28) [(Bk p68 f.cells 28), (Bk p3 f.cells 28), (Bk pm [rowV M fs.length] 48)] (l2 := L) M (len := fs.length) (xs := fdsC fs) rfl rfl rfl rfl rfl hM u24 ap28 rfl rfl (m := 1) (news := f.cells) (fun i hi => at_ownL (vs := f.cells) (.head _) (by rw [Nat.zero_add]; exact List.getElem?_eq_getElem hi)) rfl Zx (by omega) fun M' hR' => ?_
 refine Ze ?_
 refine j_end ((((List.nil_sublist _).cons_cons _).cons_cons _).cons _) ?_
 refine j_val rfl rfl (v_nilCheck rfl) ?_
 refine j_val rfl rfl (v_fieldAddr (off' := 0) u48 rfl sz24 (by decide) rfl rfl) ?_
 refine j_done ?_
 refine x_store (cs := [rowV M fs.length]) (off := 0) (e := 48) (l2 := rowO 28 M' ++ L) [(Bk p68 f.cells 28), (Bk p3 f.cells 28)] rfl rfl rfl rfl sz24 rfl (by show 0 + 1 ≤ 1; decide) ?_
 refine Ze (Zt (Zs (Zs ?_)))
 obtain ⟨gM, csM, cpM, rfl, _⟩ := hR'.cell (j := 0) (by rw [List.length_append]; show 0 < _ + 6; omega)
 refine Zr ?_
 refine Xm ?_
 refine Xn ?_
 refine Xf 0 rfl u48 rfl sz24 ?_
 refine Xl rfl u24 rfl (at_ownL (vs := [Value.slice (some ⟨gM, 0, none⟩) (fs.length + 1) cpM]) (.tail _ (.tail _ (.head _))) rfl) ?_
 refine Xv (v := Vi ((fs.length + 1 : Nat) : Int)) rfl (v_len_slice u24 rfl) ?_
 refine Xv rfl (v_subi (c := ((fs.length : Nat) : Int)) rfl rfl (by omega) (by omega)) ?_
 refine Xa ?_
 refine Ze (Zt (w_block ?_))
 refine w_loop (σ := Nat × List Value) (fun z => z.1 ≤ fs.length ∧ rowOK 6 (some (gM, z.2, cpM)) (midF fs f z.1).length (fdsC (midF fs f z.1)) ∧ ∀ j (h : j < fs.length), z.1 ≤ j → befF f fs[j]) (fun z => [(0, Pt pm), (7, Vi (z.1 : Nat))]) (fun z => (Bk pm [Value.slice (some ⟨gM, 0, none⟩) (fs.length + 1) cpM] 48) :: (Bk gM z.2 28) :: L) (fun z => ro) (fun z => z.1) ((fs.length, csM)) (⟨Nat.le_refl _, by dsimp only; rw [midF_all, List.length_append, fdsC_app]; exact (by simpa [fdsC] using hR'), fun j h hj => by dsimp only at hj; omega⟩) (l_start Zu (fun _ h => h.less ((List.sublist_cons_self _ _).trans (List.sublist_cons_self _ _)) (fun _ h => h))) ?_
 rintro ⟨k, cs⟩ ⟨hk, hC, hbf⟩
 refine w_state ([(0, Pt pm), (7, Vi (k : Nat))]) ((Bk pm [Value.slice (some ⟨gM, 0, none⟩) (fs.length + 1) cpM] 48) :: (Bk gM cs 28) :: L) (ro) ?_
 dsimp only at hk hC hbf
 refine Zs (Zs (Zr ?_))
 refine Xm ?_
 refine Xb rfl (v_gtr rfl rfl) fun b79 hb79 => ?_
 refine Ze (Zt ?_)
 refine w_cond rfl (fun hc79 => ?_) fun hc79 => ?_
 ·simp only [hb79, Qz, ne_eq] at hc79
  obtain ⟨j, rfl⟩ : ∃ j, k = j + 1 := ⟨k - 1, by omega⟩
  have hjl : j < fs.length := by omega
  obtain ⟨m1, m2⟩ := midF_at (x := f) hjl
  obtain ⟨h1, e1⟩ := List.getElem?_eq_some_iff.1 m1
  obtain ⟨h2, e2⟩ := List.getElem?_eq_some_iff.1 m2
  obtain ⟨g1, cs1, c1, hR1, _, hc1⟩ := fd_cell hC h1
  obtain ⟨rfl, rfl, rfl⟩ : gM = g1 ∧ cs = cs1 ∧ cpM = c1 := by simpa using hR1
  obtain ⟨g2, cs2, c2, hR2, _, hc2⟩ := fd_cell hC h2
  obtain ⟨rfl, rfl, rfl⟩ : gM = g2 ∧ cs = cs2 ∧ cpM = c2 := by simpa using hR2
  rw [e1] at hc1
  rw [e2] at hc2
  refine w_skip (Zt (Zs (w_block (Zs ?_))))
  refine rg_draw 17 [(true, 0), (true, 1), (true, 2), (true, 3), (true, 4), (true, 5), (true, 6), (true, 7), (true, 8), (true, 9), (true, 10), (true, 11), (true, 12), (true, 13), (true, 14), (true, 15), (true, 16)] Zk Zk ?_
  refine Xm ?_
  refine Xn ?_
  refine Xf 0 rfl u48 rfl sz24 ?_
  refine Xl rfl u24 rfl (at_ownL (vs := [Value.slice (some ⟨gM, 0, none⟩) (fs.length + 1) cpM]) (.head _) rfl) ?_
  refine Xm ?_
  refine Xv rfl (v_indexAddr u24 sz28 rfl rfl (show j + 1 < fs.length + 1 by omega) rfl) ?_
  refine Xv rfl (v_loadN (vs := f.cells) u28 rfl sz28 rfl (fun i hi => at_ownL (vs := cs) (.tail _ (.head _)) (by rw [Nat.zero_add]; exact (hc1 i hi).trans (List.getElem?_eq_getElem hi)))) ?_
  refine Xm ?_
  refine Xn ?_
  refine Xf 0 rfl u48 rfl sz24 ?_
  refine Xl rfl u24 rfl (at_ownL (vs := [Value.slice (some ⟨gM, 0, none⟩) (fs.length + 1) cpM]) (.head _) rfl) ?_
  refine Xm ?_
  refine Xv rfl (v_subi (c := ((j : Nat) : Int)) rfl rfl (by omega) (by omega)) ?_
  refine Xv rfl (v_indexAddr u24 sz28 rfl rfl (show j < fs.length + 1 by omega) rfl) ?_
  refine Xv rfl (v_loadN (vs := fs[j].cells) u28 rfl sz28 rfl (fun i hi => at_ownL (vs := cs) (.tail _ (.head _)) (by rw [Nat.zero_add]; exact (hc2 i hi).trans (List.getElem?_eq_getElem hi)))) ?_
  refine x_callb rfl rfl rfl Tryz.func56 Zk rfl (fun w1 hw1 => r_before f fs[j] w1) fun b97 hb97 => ?_
  refine Xa ?_
  refine Ze (Zt (Zs (Zs (Zr ?_))))
  refine Xm ?_
  refine Xb rfl (v_not rfl) fun b99 hb99 => ?_
  refine Ze (Zt ?_)
  refine w_cond rfl (fun hc99 => ?_) fun hc99 => ?_
  ·simp only [hb99, hb97, Qz, ne_eq] at hc99
   have hnb : ¬befF f fs[j] := by simpa [hb97] using hc99
   refine w_exit ?_
   refine t_exit ?_
   refine b_miss rfl ?_
   refine t_exit ?_
   refine t_exit ?_
   refine b_hit ?_
   refine Zt (Zs (Zr ?_))
   refine Xa ?_
   refine Ze (Zt (w_ret ?_))
   have hmi := midF_ins hok.srt (knw_no hkn) hk hbf (fun i hi he => by obtain rfl : i = j := (by omega); exact hnb)
   rw [hmi] at hC
   rw [take_ins hrt hkn (by omega)]
   exact ret1 rfl rfl (fun w' hm' => ⟨rfl, some (gM, cs, cpM), hC, hm'.to (by dsimp only; rw [insF_len]; rfl)⟩)
  simp only [hb99, hb97, Qz, ne_eq] at hc99
  have hbe : befF f fs[j] := by simpa [hb97] using hc99
  refine w_skip (Zt (Zs (Zr ?_)))
  refine Xm ?_
  refine Xn ?_
  refine Xf 0 rfl u48 rfl sz24 ?_
  refine Xl rfl u24 rfl (at_ownL (vs := [Value.slice (some ⟨gM, 0, none⟩) (fs.length + 1) cpM]) (.head _) rfl) ?_
  refine Xm ?_
  refine Xv rfl (v_indexAddr u24 sz28 rfl rfl (show j + 1 < fs.length + 1 by omega) rfl) ?_
  refine Xv rfl (v_loadN (vs := f.cells) u28 rfl sz28 rfl (fun i hi => at_ownL (vs := cs) (.tail _ (.head _)) (by rw [Nat.zero_add]; exact (hc1 i hi).trans (List.getElem?_eq_getElem hi)))) ?_
  refine x_alloc rfl rfl rfl zr28 ?_
  intro p9
  refine x_store0 [] rfl rfl rfl rfl sz28 rfl rfl ?_
  refine Ze (Zt (Zs ?_))
  refine rg_draw 14 [(true, 0), (true, 1), (true, 2), (true, 3), (true, 4), (true, 5), (true, 6), (true, 7), (true, 8), (true, 9), (true, 10), (true, 11), (true, 12), (true, 13)] Zk Zk ?_
  refine Xm ?_
  refine Xn ?_
  refine Xf 0 rfl u48 rfl sz24 ?_
  refine Xl rfl u24 rfl (at_ownL (vs := [Value.slice (some ⟨gM, 0, none⟩) (fs.length + 1) cpM]) (.tail _ (.head _)) rfl) ?_
  refine Xm ?_
  refine Xm ?_
  refine Xn ?_
  refine Xf 0 rfl u48 rfl sz24 ?_
  refine Xl rfl u24 rfl (at_ownL (vs := [Value.slice (some ⟨gM, 0, none⟩) (fs.length + 1) cpM]) (.tail _ (.head _)) rfl) ?_
  refine Xm ?_
  refine Xv rfl (v_subi (c := ((j : Nat) : Int)) rfl rfl (by omega) (by omega)) ?_
  refine Xv rfl (v_indexAddr u24 sz28 rfl rfl (show j < fs.length + 1 by omega) rfl) ?_
  refine Xv rfl (v_loadN (vs := fs[j].cells) u28 rfl sz28 rfl (fun i hi => at_ownL (vs := cs) (.tail _ (.tail _ (.head _))) (by rw [Nat.zero_add]; exact (hc2 i hi).trans (List.getElem?_eq_getElem hi)))) ?_
  refine Xv rfl (v_indexAddr (j := j + 1) u24 sz28 rfl rfl (show j + 1 < fs.length + 1 by omega) (Nat.zero_add _)) ?_
  refine x_store (cs := cs) (off := (j + 1) * 6) (e := 28) (l2 := L) [(p9, _), (pm, _)] rfl rfl rfl rfl sz28 rfl (by obtain ⟨_, q2, _, q4, _⟩ := hC; dsimp only at q2 q4; rw [midF_len (by omega)] at q2; omega) ?_
  refine Ze (Zt ?_)
  have hC1 := row_put (c := FD.cells) (m := 6) (fun _ => rfl) hC h1 fs[j]
  have hC2 := row_put (c := FD.cells) (m := 6) (fun _ => rfl) hC1 (i := j) (by rw [List.length_set]; exact h2) f
  rw [midF_move hjl] at hC2
  refine rg_draw 8 [(true, 0), (true, 1), (true, 2), (true, 3), (true, 4), (true, 5), (true, 6), (true, 7)] Zk Zk ?_
  refine Xm ?_
  refine Xn ?_
  refine Xf 0 rfl u48 rfl sz24 ?_
  refine Xl rfl u24 rfl (at_ownL (vs := [Value.slice (some ⟨gM, 0, none⟩) (fs.length + 1) cpM]) (.tail _ (.head _)) rfl) ?_
  refine Xm ?_
  refine Xv rfl (v_subi (c := ((j : Nat) : Int)) rfl rfl (by omega) (by omega)) ?_
  refine Xv rfl (v_load_blk u28 rfl rfl (.head _) (by exact sz28)) ?_
  refine Xv rfl (v_indexAddr (j := j) u24 sz28 rfl rfl (show j < fs.length + 1 by omega) (Nat.zero_add _)) ?_
  refine x_store (cs := cs.take ((j + 1) * 6) ++ fs[j].cells ++ cs.drop ((j + 1) * 6 + 6)) (off := j * 6) (e := 28) (l2 := L) [(p9, _), (pm, _)] rfl rfl rfl rfl sz28 rfl (by obtain ⟨_, q2, _, q4, _⟩ := hC1; dsimp only at q2 q4; rw [List.length_set, midF_len (by omega)] at q2; omega) ?_
  refine Ze (b_norm (Zt (Zr ?_)))
  refine Xm ?_
  refine Xv rfl (v_subi (c := ((j : Nat) : Int)) rfl rfl (by omega) (by omega)) ?_
  refine Xa ?_
  refine Ze ?_
  exact l_norm (j, _) ⟨by dsimp only; omega, hC2, fun i h hji => by dsimp only at hji; rcases Nat.lt_or_eq_of_le hji with h3 | rfl; (· exact hbf i h h3); exact hbe⟩ (Nat.lt_succ_self _) Zu (fun _ h => h.less (List.sublist_cons_self _ _) (fun _ h => h))
 simp only [hb79, Qz, ne_eq] at hc79
 obtain rfl : k = 0 := by omega
 refine w_exit ?_
 refine t_exit ?_
 refine t_exit ?_
 refine b_hit ?_
 refine Zt (Zs (Zr ?_))
 refine Xa ?_
 refine Ze (Zt (w_ret ?_))
 have hmi := midF_ins hok.srt (knw_no hkn) hk hbf (fun i hi he => by omega)
 rw [hmi] at hC
 rw [take_ins hrt hkn (by omega)]
 exact ret1 rfl rfl (fun w' hm' => ⟨rfl, some (gM, cs, cpM), hC, hm'.to (by dsimp only; rw [insF_len]; rfl)⟩)
open Go.RowKit Go.PK
structure HR where
  g : HG
  O : RowS
  S : RowS
def hrC (x : HR) : List Value := [Vi x.g.id, .string x.g.name, rowV x.O x.g.oth.length, rowV x.S x.g.spl.length, Vi x.g.into]
def hrOK (x : HR) : Prop := rowOK 1 x.O x.g.oth.length (x.g.oth.map Value.string) ∧ rowOK 2 x.S x.g.spl.length (x.g.spl.flatMap splC)
def gsR (hs : List HR) : List HG := hs.map (·.g)
structure RdR (w : World) (ps : Nat) (H : RowS) (hs : List HR) : Prop where
  st : w.cell? ⟨ps, 0, none⟩ = some (rowV H hs.length)
  row : PK.rowR 148 5 hrC H hs w
  rows : ∀ x ∈ hs, ∀ q ∈ rowO 9 x.O ++ rowO 150 x.S, w.heap[q.1]? = some q.2
  ok : ∀ x ∈ hs, hrOK x
theorem RdR.later {w w' : World} {ps : Nat} {H : RowS} {hs : List HR} (h : RdR w ps H hs) (hl : Later w w') : RdR w' ps H hs where
 st := (World.cell?_of_block (a := ⟨ps, 0, none⟩) (hl.block ps (cell_lt h.st))).trans h.st
 row := h.row.later hl
 rows := fun x hx q hq => (hl.block _ (heap_lt (h.rows x hx q hq))).trans (h.rows x hx q hq)
 ok := h.ok
def fdR (hs : List HR) (id : Int) : Int := fidx (fun x : HR => decide (x.g.id = id)) hs
theorem fdR_lk (hs : List HR) (id : Int) : (∀ i (h : i < hs.length), fdR hs id = (i : Nat) → lkH (gsR hs) id = some hs[i].g) ∧ (fdR hs id < 0 → lkH (gsR hs) id = none) ∧ (0 ≤ fdR hs id ↔ (lkH (gsR hs) id).isSome = true) := by
 have key : (lkH (gsR hs) id) = ((hs.find? (fun x : HR => decide (x.g.id = id))).map (·.g)) := by
  unfold lkH gsR
  rw [List.find?_map]; rfl
 unfold fdR fidx
 cases hq : hs.findIdx? (fun x : HR => decide (x.g.id = id)) with
 | none =>
  have h0 : hs.find? (fun x : HR => decide (x.g.id = id)) = none := List.find?_eq_none.2 fun x hx => by
   have := List.findIdx?_eq_none_iff.1 hq x hx
   rw [this]; exact Bool.false_ne_true
  rw [key, h0]
  exact ⟨fun i h he => by dsimp only at he; omega, fun _ => rfl, ⟨fun h => by dsimp only at h; omega, fun h => by cases h⟩⟩
 | some j =>
  obtain ⟨h1, h2, h3⟩ := List.findIdx?_eq_some_iff_getElem.1 hq
  have h0 : hs.find? (fun x : HR => decide (x.g.id = id)) = some hs[j] := List.find?_eq_some_iff_getElem.2 ⟨h2, j, h1, rfl, fun k hk => by simpa using h3 k hk⟩
  rw [key, h0]
  exact ⟨fun i h he => (by dsimp only at he; obtain rfl : j = i := (by omega); rfl), fun h => by dsimp only at h; omega, ⟨fun _ => rfl, fun _ => by dsimp only; omega⟩⟩
theorem r_find {ps : Nat} {H : RowS} {hs : List HR} (w : World) (hR : RdR w ps H hs) (hlen : hs.length ≤ 100000) (id : Int) :
  Calls Tryz.prog 96 #[Pt ps, Vi id] w fun e w' => e = .returned (Vi (fdR hs id)) ∧ Later w w' := by
 refine enter (vs := [Pt ps, Vi id]) Tryz.func96 rfl Tryz.ntmps96 rfl ?_
 refine Zs (Zr ?_)
 refine Xa ?_
 refine Ze (Zt (Zs (Zs (Zr ?_))))
 refine Xa ?_
 refine Ze (Zt (w_block ?_))
 refine w_loop (σ := Nat) (fun k => k ≤ hs.length ∧ ∀ j (h : j < hs.length), j < k → decide (hs[j].g.id = id) = false) (fun k => [(0, Pt ps), (1, Vi id), (5, Vi (k : Nat))]) (fun k => []) (fun k => [(w, fun _ => True)]) (fun k => hs.length - k) (0) (⟨Nat.zero_le _, by intros; omega⟩) (l_start Zu (fun _ h => h)) ?_
 rintro k ⟨hk, hno⟩
 refine w_state ([(0, Pt ps), (1, Vi id), (5, Vi (k : Nat))]) ([]) ([(w, fun _ => True)]) ?_
 refine Zs (Zs (Zr ?_))
 refine Xm ?_
 refine Xm ?_
 refine Xn ?_
 refine Xf 0 rfl u144 rfl sz142 ?_
 refine Xl rfl u142 rfl (at_ro (.head _) trivial hR.st) ?_
 refine Xv (v := Vi (hs.length : Nat)) rfl (v_len_slice u142 rfl) ?_
 refine Xb rfl (v_lss rfl rfl) fun b12 hb12 => ?_
 refine Ze (Zt ?_)
 refine w_cond rfl (fun hc12 => ?_) fun hc12 => ?_
 ·simp only [hb12, Qz, ne_eq] at hc12
  have hkl : k < hs.length := by omega
  obtain ⟨g, cs, cp, hRg, hcp, hcl⟩ := hR.row.cells (c := hrC) (m := 5) (fun _ => rfl) (by decide) hkl
  refine w_skip (Zt (Zs (w_block (Zs (Zr ?_)))))
  refine Xm ?_
  refine Xn ?_
  refine Xf 0 rfl u144 rfl sz142 ?_
  refine Xl rfl u142 rfl (at_ro (.head _) trivial hR.st) ?_
  refine Xm ?_
  refine Xv rfl (v_indexAddr u142 sz148 (congrArg (fun R => some (rowV R hs.length)) hRg) rfl (hkl) rfl) ?_
  refine Xf _ rfl u148 rfl sz3 ?_
  refine Xl rfl u3 rfl (at_ro (.head _) trivial (v := Vi hs[k].g.id) (by show w.cell? ⟨g, 0 + k * 5 + 0, none⟩ = _; rw [Nat.zero_add]; exact hcl 0 (by decide))) ?_
  refine Xm ?_
  refine Xb rfl (v_eql rfl rfl) fun b24 hb24 => ?_
  refine Ze (Zt ?_)
  refine w_cond rfl (fun hc24 => ?_) fun hc24 => ?_
  ·have hb : decide (hs[k].g.id = id) = true := hb24.symm.trans hc24
   refine Zs (Zr ?_)
   refine Xm ?_
   refine Xa ?_
   refine Ze (Zt (w_ret (b_ret (t_ret (t_ret (b_ret (t_ret ?_)))))))
   refine ret1 rfl rfl (fun w' hm => ⟨?_, hm.base (by simp)⟩)
   unfold fdR; rw [fidx_at hkl hb hno]
  have hb : decide (hs[k].g.id = id) = false := hb24.symm.trans hc24
  refine w_skip (b_norm (Zt (Zr ?_)))
  refine Xm ?_
  refine Xv rfl (v_addi rfl rfl rfl Zo) ?_
  refine Xa ?_
  refine Ze ?_
  exact l_norm (k + 1) ⟨by omega, fun j h hjk => by rcases Nat.lt_succ_iff_lt_or_eq.1 hjk with h2 | rfl; (· exact hno j h h2); exact hb⟩ (by omega) Zu (fun _ h => h)
 simp only [hb12, Qz, ne_eq] at hc12
 refine w_exit ?_
 refine t_exit ?_
 refine t_exit ?_
 refine b_hit ?_
 refine Zt (Zs (Zr ?_))
 refine Xa ?_
 refine Ze (Zt (w_ret ?_))
 refine ret1 rfl rfl (fun w' hm => ⟨?_, hm.base (by simp)⟩)
 unfold fdR; rw [fidx_none (fun j h => hno j h (by omega))]
set_option maxHeartbeats 1000000 in
theorem r_reachS {ps : Nat} {H : RowS} {hs : List HR} (w : World) (hR : RdR w ps H hs) (hlen : hs.length ≤ 100000) {id t : Int} {i : Nat} (hi : i < hs.length) (hf : fdR hs id = (i : Nat)) (hsl : hs[i].g.spl.length ≤ 100000) (ih : ∀ c, c ∈ edges hs[i].g → ∀ w1, Later w w1 → Calls Tryz.prog 123 #[Pt ps, Vi c, Vi t] w1 fun e w2 => e = .returned (.bool (rchB (gsR hs) t c)) ∧ Later w1 w2) :
  Calls Tryz.prog 123 #[Pt ps, Vi id, Vi t] w fun e w' => e = .returned (.bool (rchB (gsR hs) t id)) ∧ Later w w' := by
 have hlk := (fdR_lk hs id).1 i hi hf
 obtain ⟨g, cs, cp, hRg, hcp, hcl⟩ := hR.row.cells (c := hrC) (m := 5) (fun _ => rfl) (by decide) hi
 refine enter (vs := [Pt ps, Vi id, Vi t]) Tryz.func123 rfl Tryz.ntmps123 rfl ?_
 refine Zs (Zr ?_)
 refine Xa ?_
 refine Ze (Zt (Zs (Zs (Zr ?_))))
 refine Xm ?_
 refine Xm ?_
 refine Xb rfl (v_eql rfl rfl) fun b12 hb12 => ?_
 refine Ze (Zt ?_)
 refine w_cond rfl (fun hc12 => ?_) fun hc12 => ?_
 ·simp only [hb12, Qz, ne_eq] at hc12
  have heq : id = t := hc12
  refine Zs (Zr ?_)
  refine Xa ?_
  refine Ze (Zt (w_ret (t_ret ?_)))
  refine ret1 rfl rfl (fun w' hm => ⟨?_, hm.base (by simp)⟩)
  rw [heq, rchB_here]
 simp only [hb12, Qz, ne_eq] at hc12
 have hne : id ≠ t := hc12
 refine w_skip (Zt (Zs (Zr ?_)))
 refine Xm ?_
 refine Xm ?_
 refine x_callv rfl rfl rfl Tryz.func96 Zk rfl (fun w1 hw1 => r_find w1 (hR.later (hw1.base (by simp))) hlen id) ?_
 refine Xa ?_
 refine Ze (Zt (Zs (Zs ?_)))
 rw [hf]
 refine Zr ?_
 refine Xm ?_
 refine Xn ?_
 refine Xf 0 rfl u144 rfl sz142 ?_
 refine Xl rfl u142 rfl (at_ro (.head _) trivial hR.st) ?_
 refine Xm ?_
 refine Xv rfl (v_indexAddr u142 sz148 (congrArg (fun R => some (rowV R hs.length)) hRg) rfl (hi) rfl) ?_
 refine Xf _ rfl u148 rfl sz3 ?_
 refine Xl rfl u3 rfl (at_ro (.head _) trivial (v := Vi hs[i].g.into) (by show w.cell? ⟨g, 0 + i * 5 + 4, none⟩ = _; rw [Nat.zero_add]; exact hcl 4 (by decide))) ?_
 refine Xb rfl (v_gtr rfl rfl) fun b24 hb24 => ?_
 refine Ze (Zt ?_)
 refine w_cond rfl (fun hc24 => ?_) fun hc24 => ?_
 ·simp only [hb24, Qz, ne_eq] at hc24
  have hst := rchB_step (hs := gsR hs) (t := t) hlk hne
  have he : edges hs[i].g = [hs[i].g.into] := by unfold edges; rw [if_pos (by omega)]
  rw [he, List.any_cons, List.any_nil, Bool.or_false] at hst
  refine Zs (Zr ?_)
  refine Xm ?_
  refine Xm ?_
  refine Xn ?_
  refine Xf 0 rfl u144 rfl sz142 ?_
  refine Xl rfl u142 rfl (at_ro (.head _) trivial hR.st) ?_
  refine Xm ?_
  refine Xv rfl (v_indexAddr u142 sz148 (congrArg (fun R => some (rowV R hs.length)) hRg) rfl (hi) rfl) ?_
  refine Xf _ rfl u148 rfl sz3 ?_
  refine Xl rfl u3 rfl (at_ro (.head _) trivial (v := Vi hs[i].g.into) (by show w.cell? ⟨g, 0 + i * 5 + 4, none⟩ = _; rw [Nat.zero_add]; exact hcl 4 (by decide))) ?_
  refine Xm ?_
  refine x_callb rfl rfl rfl Tryz.func123 Zk rfl (fun w1 hw1 => ih hs[i].g.into (by rw [he]; exact .head _) w1 (hw1.base (by simp))) fun b35 hb35 => ?_
  refine Xa ?_
  refine Ze (Zt (w_ret (t_ret ?_)))
  refine ret1 rfl rfl (fun w' hm => ⟨?_, hm.base (by simp)⟩)
  rw [hst, hb35]
 simp only [hb24, Qz, ne_eq] at hc24
 have hst := rchB_step (hs := gsR hs) (t := t) hlk hne
 have he : edges hs[i].g = hs[i].g.spl.map (·.2) := by unfold edges; rw [if_neg (by omega)]
 refine w_skip (Zt (Zs (Zs (Zr ?_))))
 refine Xa ?_
 refine Ze (Zt (w_block ?_))
 refine w_loop (σ := Nat) (fun j => j ≤ hs[i].g.spl.length ∧ ∀ k (h : k < hs[i].g.spl.length), k < j → rchB (gsR hs) t hs[i].g.spl[k].2 = false) (fun j => [(0, Pt ps), (2, Vi t), (7, Vi (i : Nat)), (8, Vi (j : Nat))]) (fun j => []) (fun j => [(w, fun _ => True)]) (fun j => hs[i].g.spl.length - j) (0) (⟨Nat.zero_le _, by intros; omega⟩) (l_start Zu (fun _ h => h)) ?_
 rintro j ⟨hj, hno⟩
 refine w_state ([(0, Pt ps), (2, Vi t), (7, Vi (i : Nat)), (8, Vi (j : Nat))]) ([]) ([(w, fun _ => True)]) ?_
 refine Zs (Zs (Zr ?_))
 refine Xm ?_
 refine Xm ?_
 refine Xn ?_
 refine Xf 0 rfl u144 rfl sz142 ?_
 refine Xl rfl u142 rfl (at_ro (.head _) trivial hR.st) ?_
 refine Xm ?_
 refine Xv rfl (v_indexAddr u142 sz148 (congrArg (fun R => some (rowV R hs.length)) hRg) rfl (hi) rfl) ?_
 refine Xf _ rfl u148 rfl sz146 ?_
 refine Xl rfl u146 rfl (at_ro (.head _) trivial (v := rowV hs[i].S hs[i].g.spl.length) (by show w.cell? ⟨g, 0 + i * 5 + 3, none⟩ = _; rw [Nat.zero_add]; exact hcl 3 (by decide))) ?_
 refine Xv (v := Vi (hs[i].g.spl.length : Nat)) rfl (v_len_slice u146 rfl) ?_
 refine Xb rfl (v_lss rfl rfl) fun b46 hb46 => ?_
 refine Ze (Zt ?_)
 refine w_cond rfl (fun hc46 => ?_) fun hc46 => ?_
 ·simp only [hb46, Qz, ne_eq] at hc46
  have hjl : j < hs[i].g.spl.length := by omega
  obtain ⟨g2, cs2, cp2, hS2, hcp2, hcl2⟩ := row_at (c := splC) (m := 2) (fun _ => rfl) (by decide) (hR.ok _ (List.getElem_mem hi)).2 hjl
  have hcell2 : w.cell? ⟨g2, j * 2 + 1, none⟩ = some (Vi hs[i].g.spl[j].2) := by
   have hg := hR.rows _ (List.getElem_mem hi) (g2, .cells cs2.toArray 150 (0, 0)) (List.mem_append_right _ (by rw [hS2]; exact .head _))
   rw [cell_of_row w g2 _ _ 150 (0, 0) hg, List.getElem?_toArray]; exact hcl2 1 (by decide)
  have hce : hs[i].g.spl[j].2 ∈ edges hs[i].g := by rw [he]; exact List.mem_map_of_mem (List.getElem_mem hjl)
  refine w_skip (Zt (Zs (w_block (Zs (Zr ?_)))))
  refine Xm ?_
  refine Xm ?_
  refine Xn ?_
  refine Xf 0 rfl u144 rfl sz142 ?_
  refine Xl rfl u142 rfl (at_ro (.head _) trivial hR.st) ?_
  refine Xm ?_
  refine Xv rfl (v_indexAddr u142 sz148 (congrArg (fun R => some (rowV R hs.length)) hRg) rfl (hi) rfl) ?_
  refine Xf _ rfl u148 rfl sz146 ?_
  refine Xl rfl u146 rfl (at_ro (.head _) trivial (v := rowV hs[i].S hs[i].g.spl.length) (by show w.cell? ⟨g, 0 + i * 5 + 3, none⟩ = _; rw [Nat.zero_add]; exact hcl 3 (by decide))) ?_
  refine Xm ?_
  refine Xv rfl (v_indexAddr u146 sz150 (congrArg (fun R => some (rowV R hs[i].g.spl.length)) hS2) rfl (hjl) rfl) ?_
  refine Xf _ rfl u150 rfl sz3 ?_
  refine Xl rfl u3 rfl (at_ro (.head _) trivial (v := Vi hs[i].g.spl[j].2) (by show w.cell? ⟨g2, 0 + j * 2 + 1, none⟩ = _; rw [Nat.zero_add]; exact hcell2)) ?_
  refine Xm ?_
  refine x_callb rfl rfl rfl Tryz.func123 Zk rfl (fun w1 hw1 => ih _ hce w1 (hw1.base (by simp))) fun b63 hb63 => ?_
  refine Xa ?_
  refine Ze (Zt (Zs (Zr ?_)))
  refine Xm ?_
  refine Ze (Zt ?_)
  refine w_cond rfl (fun hc64 => ?_) fun hc64 => ?_
  ·skip
   refine Zs (Zr ?_)
   refine Xa ?_
   refine Ze (Zt (w_ret (b_ret (t_ret (t_ret (b_ret (t_ret ?_)))))))
   refine ret1 rfl rfl (fun w' hm => ⟨?_, hm.base (by simp)⟩)
   have hy : rchB (gsR hs) t hs[i].g.spl[j].2 = true := hb63.symm.trans hc64
   rw [hst, List.any_eq_true.2 ⟨_, hce, hy⟩]
  skip
  refine w_skip (b_norm (Zt (Zr ?_)))
  refine Xm ?_
  refine Xv rfl (v_addi rfl rfl rfl Zo) ?_
  refine Xa ?_
  refine Ze ?_
  have hb : rchB (gsR hs) t hs[i].g.spl[j].2 = false := hb63.symm.trans hc64
  exact l_norm (j + 1) ⟨by omega, fun k h hjk => by rcases Nat.lt_succ_iff_lt_or_eq.1 hjk with h2 | rfl; (· exact hno k h h2); exact hb⟩ (by omega) Zu (fun _ h => h)
 simp only [hb46, Qz, ne_eq] at hc46
 obtain rfl : j = hs[i].g.spl.length := by omega
 refine w_exit ?_
 refine t_exit ?_
 refine t_exit ?_
 refine b_hit ?_
 refine Zt (Zs (Zr ?_))
 refine Xa ?_
 refine Ze (Zt (w_ret ?_))
 refine ret1 rfl rfl (fun w' hm => ⟨?_, hm.base (by simp)⟩)
 rw [hst, he, List.any_map, List.any_eq_false.2 (fun x hx => by obtain ⟨k, hk, rfl⟩ := List.getElem_of_mem hx; have := hno k hk hk; simp [this])]
theorem r_reaches {ps : Nat} {H : RowS} {hs : List HR} (w : World) (hR : RdR w ps H hs) (hlen : hs.length ≤ 100000) (ha : Acy (gsR hs)) (hsl : ∀ x ∈ hs, x.g.spl.length ≤ 100000) {id : Int} (t : Int) (h0 : (lkH (gsR hs) id).isSome = true) :
  Calls Tryz.prog 123 #[Pt ps, Vi id, Vi t] w fun e w' => e = .returned (.bool (rchB (gsR hs) t id)) ∧ Later w w' := by
 obtain ⟨r, hr⟩ := ha.rank
 have key : ∀ (n : Nat) (id : Int) (w : World), r id ≤ n → RdR w ps H hs → (lkH (gsR hs) id).isSome = true → Calls Tryz.prog 123 #[Pt ps, Vi id, Vi t] w fun e w' => e = .returned (.bool (rchB (gsR hs) t id)) ∧ Later w w' := by
  intro n
  induction n with
  | zero =>
   intro id w hn hR h0
   obtain ⟨i, hi, hf⟩ := fidx_lt ((fdR_lk hs id).2.2.2 h0)
   have hlk := (fdR_lk hs id).1 i hi hf
   obtain ⟨q1, q2⟩ := lkH_mem hlk
   exact r_reachS w hR hlen hi hf (hsl _ (List.getElem_mem hi)) fun c hc => by have := hr _ q1 c hc; rw [q2] at this; omega
  | succ n ih =>
   intro id w hn hR h0
   obtain ⟨i, hi, hf⟩ := fidx_lt ((fdR_lk hs id).2.2.2 h0)
   have hlk := (fdR_lk hs id).1 i hi hf
   obtain ⟨q1, q2⟩ := lkH_mem hlk
   exact r_reachS w hR hlen hi hf (hsl _ (List.getElem_mem hi)) fun c hc w1 hw1 => ih c w1 (by have := hr _ q1 c hc; rw [q2] at this; omega) (hR.later hw1) (ha.shut _ q1 c hc)
 exact key (r id) id w (Nat.le_refl _) hR h0
open Go.RowKit Go.PK
theorem accN_new {hs : List HG} {f : FD} (hk : f.kind = 1) : (accS hs f).isNone = (lkH hs f.hd).isSome := by
 unfold accS
 cases lkH hs f.hd with
 | none => rw [if_pos hk]; rfl
 | some h => dsimp only; rw [if_pos hk]; rfl
theorem accN_gone {hs : List HG} {f : FD} (hk : f.kind ≠ 1) (h : lkH hs f.hd = none) : (accS hs f).isNone = true := by
 unfold accS
 rw [h]; dsimp only; rw [if_neg hk]; rfl
theorem accN_dead {hs : List HG} {f : FD} {g : HG} (hk : f.kind ≠ 1) (h : lkH hs f.hd = some g) (h0 : g.into ≠ 0) : (accS hs f).isNone = true := by
 unfold accS
 rw [h]; dsimp only; rw [if_neg hk, if_pos h0]; rfl
theorem accN_live {hs : List HG} {f : FD} {g : HG} (hk : f.kind = 2 ∨ f.kind = 3) (h : lkH hs f.hd = some g) (h0 : g.into = 0) : (accS hs f).isNone = false := by
 unfold accS
 rw [h]; dsimp only; rw [if_neg (by omega), if_neg (by omega)]
 split
 ·rfl
 rw [if_pos (by omega)]; rfl
theorem accN_to {hs : List HG} {f : FD} {g : HG} (hk : f.kind = 4 ∨ f.kind = 5) (h : lkH hs f.hd = some g) (h0 : g.into = 0) : (accS hs f).isNone = (decide (lkH hs f.to = none) || rchB hs f.hd f.to) := by
 unfold accS
 rw [h]; dsimp only; rw [if_neg (by omega), if_neg (by omega), if_neg (by omega), if_neg (by omega)]
 by_cases h1 : lkH hs f.to = none
 ·rw [if_pos h1, decide_eq_true h1]; rfl
 rw [if_neg h1, decide_eq_false h1]
 by_cases h2 : PK.RchH hs f.hd f.to
 ·rw [if_pos h2, rchB_iff.2 h2]; rfl
 rw [if_neg h2, rchB_no.2 h2]
 split <;> rfl
set_option maxHeartbeats 1000000 in
theorem r_refuses {ps : Nat} {H : RowS} {hs : List HR} (w : World) (hR : RdR w ps H hs) (hlen : hs.length ≤ 100000) (ha : Acy (gsR hs)) (hsl : ∀ x ∈ hs, x.g.spl.length ≤ 100000) (f : FD) (hkd : 1 ≤ f.kind ∧ f.kind ≤ 5) :
  Calls Tryz.prog 95 #[Pt ps, Value.agg f.cells.toArray] w fun e w' => e = .returned (.bool ((accS (gsR hs) f).isNone)) ∧ Later w w' := by
 refine enter (vs := [Pt ps, Value.agg f.cells.toArray]) Tryz.func95 rfl Tryz.ntmps95 rfl ?_
 refine Zs (Zr ?_)
 refine x_box rfl rfl rfl rfl ?_
 intro p3
 refine Xa ?_
 refine Ze (Zt (Zs (Zr ?_)))
 refine Xm ?_
 refine Xf 3 rfl u28 rfl sz3 ?_
 refine Xl rfl u3 rfl (at_ownL (vs := f.cells) (.head _) rfl) ?_
 refine x_callv rfl rfl rfl Tryz.func96 Zk rfl (fun w1 hw1 => r_find w1 (hR.later (hw1.base (by simp))) hlen f.hd) ?_
 refine Xa ?_
 refine Ze (Zt (Zs (Zs (Zr ?_))))
 refine Xf 2 rfl u28 rfl sz3 ?_
 refine Xl rfl u3 rfl (at_ownL (vs := f.cells) (.head _) rfl) ?_
 refine Xb rfl (v_eql rfl rfl) fun b12 hb12 => ?_
 refine Ze (Zt ?_)
 refine w_cond rfl (fun hc12 => ?_) fun hc12 => ?_
 ·simp only [hb12, Qz, ne_eq] at hc12
  have hk1 : f.kind = 1 := hc12
  refine Zs (Zr ?_)
  refine Xm ?_
  refine Xb rfl (v_geq rfl rfl) fun b14 hb14 => ?_
  refine Xa ?_
  refine Ze (Zt (w_ret (t_ret ?_)))
  refine ret1 rfl rfl (fun w' hm => ⟨?_, hm.base (by simp)⟩)
  rw [accN_new hk1, hb14, Bool.eq_iff_iff.2 (decide_eq_true_iff.trans (fdR_lk hs f.hd).2.2)]
 simp only [hb12, Qz, ne_eq] at hc12
 have hk1 : f.kind ≠ 1 := hc12
 refine w_skip (Zt (Zs (Zs ?_)))
 by_cases h0 : 0 ≤ fdR hs f.hd
 ·obtain ⟨i, hi, hf⟩ := fidx_lt h0
  have hf : fdR hs f.hd = (i : Nat) := hf
  rw [hf]
  obtain ⟨g, cs, cp, hRg, hcp, hcl⟩ := hR.row.cells (c := hrC) (m := 5) (fun _ => rfl) (by decide) hi
  have hlk := (fdR_lk hs f.hd).1 i hi hf
  have hpo := ha.pos hs[i].g (List.mem_map_of_mem (List.getElem_mem hi))
  refine Zr ?_
  refine Xm ?_
  refine Xb rfl (v_lss rfl rfl) fun b16 hb16 => ?_
  obtain rfl : b16 = false := hb16.trans (decide_eq_false (by omega))
  refine Xm ?_
  refine x_valg rfl rfl rfl rfl rfl (v_move rfl) ?_
  refine x_valg rfl rfl rfl rfl rfl (v_nilCheck rfl) ?_
  refine x_valg rfl rfl rfl rfl rfl (v_fieldAddr (off' := 0) u144 rfl sz142 (by decide) rfl rfl) ?_
  refine x_valg rfl rfl rfl rfl rfl (v_load u142 rfl rfl (at_ro (.head _) trivial hR.st)) ?_
  refine x_valg rfl rfl rfl rfl rfl (v_move rfl) ?_
  refine x_valg rfl rfl rfl rfl rfl (v_indexAddr u142 sz148 (congrArg (fun R => some (rowV R hs.length)) hRg) rfl (hi) rfl) ?_
  refine x_valg rfl rfl rfl rfl rfl (v_fieldAddr u148 rfl sz3 (by decide) rfl rfl) ?_
  refine x_valg rfl rfl rfl rfl rfl (v_load u3 rfl rfl (at_ro (.head _) trivial (v := Vi hs[i].g.into) (by show w.cell? ⟨g, 0 + i * 5 + 4, none⟩ = _; rw [Nat.zero_add]; exact hcl 4 (by decide)))) ?_
  refine x_boolg rfl rfl rfl rfl rfl (v_gtr rfl rfl) fun b26 hb26 => ?_
  refine Xv (v := .bool b26) rfl (v_pick (b := false) rfl rfl) ?_
  refine Ze (Zt ?_)
  refine w_cond rfl (fun hc27 => ?_) fun hc27 => ?_
  ·have hin : hs[i].g.into ≠ 0 := by have := of_decide_eq_true (hb26.symm.trans hc27); omega
   refine Zs (Zr ?_)
   refine Xa ?_
   refine Ze (Zt (w_ret (t_ret ?_)))
   refine ret1 rfl rfl (fun w' hm => ⟨?_, hm.base (by simp)⟩)
   rw [accN_dead hk1 hlk hin]
  have hin : hs[i].g.into = 0 := by have := of_decide_eq_false (hb26.symm.trans hc27); omega
  refine w_skip (Zt (Zs (Zs (Zr ?_))))
  refine Xf 2 rfl u28 rfl sz3 ?_
  refine Xl rfl u3 rfl (at_ownL (vs := f.cells) (.head _) rfl) ?_
  refine Xb rfl (v_eql rfl rfl) fun b30 hb30 => ?_
  refine Xm ?_
  refine Xi rfl rfl rfl (fun hg0 => by subst hg0; (try simp only [Qy]); exact v_fieldAddr (off' := 2) u28 rfl sz3 (by decide) rfl rfl) ?_
  refine Xi rfl rfl rfl (fun hg0 => by subst hg0; (try simp only [Qy]); exact v_load u3 rfl rfl (at_ownL (vs := f.cells) (.head _) rfl)) ?_
  refine Xj rfl rfl rfl (fun hg0 => by subst hg0; (try simp only [Qy]); exact v_eql rfl rfl) fun b34 hb34 => ?_
  refine Xb rfl (v_or rfl rfl) fun b35 hb35 => ?_
  refine Ze (Zt ?_)
  refine w_cond rfl (fun hc35 => ?_) fun hc35 => ?_
  ·simp only [hb35, hb34, hb30, Qz, ne_eq] at hc35
   have hk4 : f.kind = 4 ∨ f.kind = 5 := hc35
   refine Zs (Zs (Zr ?_))
   refine Xm ?_
   refine Xf 4 rfl u28 rfl sz3 ?_
   refine Xl rfl u3 rfl (at_ownL (vs := f.cells) (.head _) rfl) ?_
   refine x_callv rfl rfl rfl Tryz.func96 Zk rfl (fun w1 hw1 => r_find w1 (hR.later (hw1.base (by simp))) hlen f.to) ?_
   refine Xb rfl (v_lss rfl rfl) fun b40 hb40 => ?_
   refine Ze (Zt ?_)
   refine w_cond rfl (fun hc40 => ?_) fun hc40 => ?_
   ·simp only [hb40, Qz, ne_eq] at hc40
    have hto := (fdR_lk hs f.to).2.1 hc40
    refine Zs (Zr ?_)
    refine Xa ?_
    refine Ze (Zt (w_ret (t_ret (t_ret ?_))))
    refine ret1 rfl rfl (fun w' hm => ⟨?_, hm.base (by simp)⟩)
    rw [accN_to hk4 hlk hin, decide_eq_true hto]; rfl
   simp only [hb40, Qz, ne_eq] at hc40
   have hto := (fdR_lk hs f.to).2.2.1 (by omega)
   refine w_skip (Zt (Zs (Zr ?_)))
   refine Xm ?_
   refine Xf 4 rfl u28 rfl sz3 ?_
   refine Xl rfl u3 rfl (at_ownL (vs := f.cells) (.head _) rfl) ?_
   refine Xf 3 rfl u28 rfl sz3 ?_
   refine Xl rfl u3 rfl (at_ownL (vs := f.cells) (.head _) rfl) ?_
   refine x_callb rfl rfl rfl Tryz.func123 Zk rfl (fun w1 hw1 => r_reaches w1 (hR.later (hw1.base (by simp))) hlen ha hsl f.hd hto) fun b46 hb46 => ?_
   refine Xa ?_
   refine Ze (Zt (w_ret (t_ret ?_)))
   refine ret1 rfl rfl (fun w' hm => ⟨?_, hm.base (by simp)⟩)
   rw [accN_to hk4 hlk hin, decide_eq_false (fun h => by rw [h] at hto; cases hto), hb46]; rfl
  simp only [hb35, hb34, hb30, Qz, ne_eq] at hc35
  have hk4 : ¬(f.kind = 4 ∨ f.kind = 5) := fun h => by omega
  refine w_skip (Zt (Zs (Zr ?_)))
  refine Xa ?_
  refine Ze (Zt (w_ret ?_))
  refine ret1 rfl rfl (fun w' hm => ⟨?_, hm.base (by simp)⟩)
  rw [accN_live (by omega) hlk hin]
 have hno := (fdR_lk hs f.hd).2.1 (Int.not_le.1 h0)
 refine Zr ?_
 refine Xm ?_
 refine Xb rfl (v_lss rfl rfl) fun b16 hb16 => ?_
 obtain rfl : b16 = true := hb16.trans (decide_eq_true (Int.not_le.1 h0))
 refine Xm ?_
 refine x_no rfl rfl rfl rfl rfl ?_
 refine x_no rfl rfl rfl rfl rfl ?_
 refine x_no rfl rfl rfl rfl rfl ?_
 refine x_no rfl rfl rfl rfl rfl ?_
 refine x_no rfl rfl rfl rfl rfl ?_
 refine x_no rfl rfl rfl rfl rfl ?_
 refine x_no rfl rfl rfl rfl rfl ?_
 refine x_no rfl rfl rfl rfl rfl ?_
 refine x_no rfl rfl rfl rfl rfl ?_
 refine Xv (v := .bool true) rfl (v_pick (b := true) rfl rfl) ?_
 refine Ze (Zt ?_)
 refine w_cond rfl (fun hc27 => ?_) fun hc27 => ?_
 ·skip
  refine Zs (Zr ?_)
  refine Xa ?_
  refine Ze (Zt (w_ret (t_ret ?_)))
  refine ret1 rfl rfl (fun w' hm => ⟨?_, hm.base (by simp)⟩)
  rw [accN_gone hk1 hno]
 cases hc27
open Go.RowKit Go.PK
theorem r_mod (n m : Int) (w : World) (hn : in64 n) (hmm : 0 < m ∧ m ≤ 4000000000) :
  Calls Tryz.prog 54 #[Vi n, Vi m] w fun e w' => e = .returned (Vi (n % m)) ∧ Later w w' := by
 refine enter (vs := [Vi n, Vi m]) Tryz.func54 rfl Tryz.ntmps54 rfl ?_
 refine Zs (Zr ?_)
 refine Xa ?_
 refine Ze (Zt (Zs (Zr ?_)))
 refine Xm ?_
 refine Xm ?_
 refine Xv rfl (v_rem rfl rfl (by omega)) ?_
 refine Xm ?_
 refine Xv rfl (v_addi (c := n.tmod m + m) rfl rfl rfl (by have := tmod_bd n m hmm.1; omega)) ?_
 refine Xm ?_
 refine Xv rfl (v_rem rfl rfl (by omega)) ?_
 refine Xa ?_
 refine Ze (Zt (w_ret ?_))
 refine ret1 rfl rfl (fun w' hm => ⟨?_, hm.base (by simp)⟩)
 rw [tmod_mod n m hmm.1]
theorem r_among {ws : List ByteArray} {R : RowS} {t : ByteArray} (w : World) (hr : PK.rowR 9 1 (fun x : ByteArray => [Value.string x]) R ws w) (hlen : ws.length ≤ 100000000) :
  Calls Tryz.prog 66 #[rowV R ws.length, .string t] w fun e w' => e = .returned (.bool (amg ws t)) ∧ Later w w' := by
 refine enter (vs := [rowV R ws.length, .string t]) Tryz.func66 rfl Tryz.ntmps66 rfl ?_
 refine Zs (Zr ?_)
 refine Xa ?_
 refine Ze (Zt (Zs (Zs (Zr ?_))))
 refine Xa ?_
 refine Ze (Zt (w_block ?_))
 refine w_loop (σ := Nat) (fun k => k ≤ ws.length ∧ ∀ j (h : j < ws.length), j < k → decide (ws[j] = t) = false) (fun k => [(0, rowV R ws.length), (1, Value.string t), (5, Vi (k : Nat))]) (fun k => []) (fun k => [(w, fun _ => True)]) (fun k => ws.length - k) (0) (⟨Nat.zero_le _, by intros; omega⟩) (l_start Zu (fun _ h => h)) ?_
 rintro k ⟨hk, hno⟩
 refine w_state ([(0, rowV R ws.length), (1, Value.string t), (5, Vi (k : Nat))]) ([]) ([(w, fun _ => True)]) ?_
 refine Zs (Zs (Zr ?_))
 refine Xm ?_
 refine Xm ?_
 refine Xv (v := Vi (ws.length : Nat)) rfl (v_len_slice u38 rfl) ?_
 refine Xb rfl (v_lss rfl rfl) fun b9 hb9 => ?_
 refine Ze (Zt ?_)
 refine w_cond rfl (fun hc9 => ?_) fun hc9 => ?_
 ·simp only [hb9, Qz, ne_eq] at hc9
  have hkl : k < ws.length := by omega
  obtain ⟨g, cs, cp, hRg, hcp, hcl⟩ := hr.cells (c := (fun x : ByteArray => [Value.string x])) (m := 1) (fun _ => rfl) (by decide) hkl
  refine w_skip (Zt (Zs (w_block (Zs (Zr ?_)))))
  refine Xm ?_
  refine Xm ?_
  refine Xv rfl (v_indexAddr u38 sz9 (congrArg (fun R => some (rowV R ws.length)) hRg) rfl (hkl) rfl) ?_
  refine Xl rfl u9 rfl (at_ro (.head _) trivial (v := Value.string ws[k]) (by rw [Nat.zero_add]; exact hcl 0 (by decide))) ?_
  refine Xm ?_
  refine Xb rfl (v_seql rfl rfl) fun b17 hb17 => ?_
  refine Ze (Zt ?_)
  refine w_cond rfl (fun hc17 => ?_) fun hc17 => ?_
  ·have hb : decide (ws[k] = t) = true := hb17.symm.trans hc17
   refine Zs (Zr ?_)
   refine Xa ?_
   refine Ze (Zt (w_ret (b_ret (t_ret (t_ret (b_ret (t_ret ?_)))))))
   refine ret1 rfl rfl (fun w' hm => ⟨?_, hm.base (by simp)⟩)
   rw [show amg ws t = true from List.any_eq_true.2 ⟨_, List.getElem_mem hkl, hb⟩]
  have hb : decide (ws[k] = t) = false := hb17.symm.trans hc17
  refine w_skip (b_norm (Zt (Zr ?_)))
  refine Xm ?_
  refine Xv rfl (v_addi rfl rfl rfl Zo) ?_
  refine Xa ?_
  refine Ze ?_
  exact l_norm (k + 1) ⟨by omega, fun j h hjk => by rcases Nat.lt_succ_iff_lt_or_eq.1 hjk with h2 | rfl; (· exact hno j h h2); exact hb⟩ (by omega) Zu (fun _ h => h)
 simp only [hb9, Qz, ne_eq] at hc9
 obtain rfl : k = ws.length := by omega
 refine w_exit ?_
 refine t_exit ?_
 refine t_exit ?_
 refine b_hit ?_
 refine Zt (Zs (Zr ?_))
 refine Xa ?_
 refine Ze (Zt (w_ret ?_))
 refine ret1 rfl rfl (fun w' hm => ⟨?_, hm.base (by simp)⟩)
 rw [show amg ws t = false from List.any_eq_false.2 (fun x hx => by obtain ⟨j, hj, rfl⟩ := List.getElem_of_mem hx; rw [hno j hj hj]; exact Bool.false_ne_true)]
open Go.RowKit Go.PK
structure SR where
  ps : Nat
  H : RowS
  hs : List HR
  R : RowS
def hrO (x : HR) : List (Nat × Obj) := rowO 9 x.O ++ rowO 150 x.S
def HRO (hs : List HR) : List (Nat × Obj) := hs.flatMap hrO
def SRO (x : SR) (n : Nat) : List (Nat × Obj) := (Bk x.ps [rowV x.H x.hs.length, rowV x.R n] 144) :: (rowO 148 x.H ++ (rowO 28 x.R ++ HRO x.hs))
structure SRK (x : SR) (s : SG8) : Prop where
  hs : gsR x.hs = s.hs
  row : rowOK 5 x.H x.hs.length (x.hs.flatMap hrC)
  ok : ∀ h ∈ x.hs, hrOK h
  rf : rowOK 6 x.R s.ref.length (fdsC s.ref)
theorem SRK.zero (ps : Nat) : SRK ⟨ps, none, [], none⟩ (stF []) := ⟨rfl, rowOK_nil, fun h hh => (by cases hh), rowOK_nil⟩
theorem HRO_set {hs : List HR} {i : Nat} (hi : i < hs.length) (x' : HR) : ∃ A C, HRO hs = A ++ (hrO hs[i] ++ C) ∧ HRO (hs.set i x') = A ++ (hrO x' ++ C) := by
 refine ⟨HRO (hs.take i), HRO (hs.drop (i + 1)), ?_, ?_⟩
 ·unfold HRO
  conv => lhs; rw [show hs = hs.take i ++ hs[i] :: hs.drop (i + 1) from by rw [List.getElem_cons_drop, List.take_append_drop]]
  rw [List.flatMap_append, List.flatMap_cons]
 unfold HRO
 rw [List.set_eq_take_append_cons_drop, if_pos hi, List.flatMap_append, List.flatMap_cons]
theorem SRK.rd {x : SR} {s : SG8} (h : SRK x s) {w : World} {n : Nat} {L : List (Nat × Obj)} {ro : List Snap} (hm : Mem w (SRO x n ++ L) ro) : RdR w x.ps x.H x.hs where
 st := at_ownL (vs := [rowV x.H x.hs.length, rowV x.R n]) (.head _) rfl w hm
 row := hm.rowR h.row (fun q hq => List.mem_append_left _ (.tail _ (List.mem_append_left _ hq)))
 rows := fun y hy q hq => hm.own_at q (List.mem_append_left _ (.tail _ (List.mem_append_right _ (List.mem_append_right _ (List.mem_flatMap.2 ⟨y, hy, hq⟩)))))
 ok := h.ok
theorem setH_spl : ∀ {a : List HG} {y h : HG} {c : List HG}, (∀ z ∈ a, z.id ≠ h.id) → y.id = h.id → setH (a ++ y :: c) h = a ++ h :: c
 | [], y, h, c, _, hy => by
  show setH (y :: c) h = h :: c
  unfold setH
  rw [if_pos hy]
 | z :: a, y, h, c, ha, hy => by
  show setH (z :: (a ++ y :: c)) h = _
  unfold setH
  rw [if_neg (ha z (.head _)), setH_spl (fun q hq => ha q (.tail _ hq)) hy]; rfl
theorem setH_at {hs : List HR} {id : Int} {i : Nat} (hi : i < hs.length) (hf : fdR hs id = (i : Nat)) (x' : HR) (hid : x'.g.id = id) : setH (gsR hs) x'.g = gsR (hs.set i x') ∧ lkH (gsR hs) id = some hs[i].g := by
 refine ⟨?_, (fdR_lk hs id).1 i hi hf⟩
 unfold fdR fidx at hf
 cases hq : hs.findIdx? (fun x : HR => decide (x.g.id = id)) with
 | none => rw [hq] at hf; dsimp only at hf; omega
 | some j =>
  rw [hq] at hf
  dsimp only at hf
  have hj : j = i := by omega
  subst hj
  obtain ⟨h1, h2, h3⟩ := List.findIdx?_eq_some_iff_getElem.1 hq
  have e1 : gsR hs = gsR (hs.take j) ++ hs[j].g :: gsR (hs.drop (j + 1)) := by
   unfold gsR
   conv => lhs; rw [show hs = hs.take j ++ hs[j] :: hs.drop (j + 1) from by rw [List.getElem_cons_drop, List.take_append_drop]]
   rw [List.map_append, List.map_cons]
  have e2 : gsR (hs.set j x') = gsR (hs.take j) ++ x'.g :: gsR (hs.drop (j + 1)) := by
   unfold gsR
   rw [List.set_eq_take_append_cons_drop, if_pos hi, List.map_append, List.map_cons]
  rw [e1, e2]
  refine setH_spl (fun z hz => ?_) (by rw [hid]; exact of_decide_eq_true h2)
  obtain ⟨y, hy, rfl⟩ := List.mem_map.1 hz
  obtain ⟨m, hm, rfl⟩ := List.getElem_of_mem hy
  rw [List.length_take] at hm
  rw [List.getElem_take, hid]
  have := h3 m (by omega)
  simpa using this
theorem SRK.set {x : SR} {s : SG8} (h : SRK x s) {id : Int} {i : Nat} (hi : i < x.hs.length) (hf : fdR x.hs id = (i : Nat)) {x' : HR} (hid : x'.g.id = id) (hok : hrOK x') {H' : RowS} (hr : rowOK 5 H' (x.hs.set i x').length ((x.hs.set i x').flatMap hrC)) : SRK { x with hs := x.hs.set i x', H := H' } ⟨setH s.hs x'.g, s.ref⟩ where
 hs := by rw [← h.hs]; exact (setH_at hi hf x' hid).1.symm
 row := hr
 ok := fun y hy => (List.mem_or_eq_of_mem_set hy).elim (h.ok y) (fun e => by rw [e]; exact hok)
 rf := h.rf
open Go.RowKit Go.PK
def titL : List ByteArray := [⟨#[84, 111, 109, 32, 83, 97, 119, 121, 101, 114]⟩, ⟨#[79, 108, 100, 32, 115, 111, 110, 103, 115]⟩, ⟨#[65, 32, 98, 111, 111, 107, 32, 111, 102, 32, 109, 117, 115, 105, 99]⟩, ⟨#[]⟩, ⟨#[83, 79, 78, 71, 83, 32, 111, 102, 32, 84, 111, 109]⟩]
def titN (n : Int) : ByteArray := titL.getD (n % 5).toNat ⟨#[]⟩
theorem r_Title (n : Int) (w : World) (hn : in64 n) :
  Calls Tryz.prog 30 #[Vi n] w fun e w' => e = .returned (.string (titN n)) ∧ Later w w' := by
 have hj5 : (n % 5).toNat < 5 := by omega
 refine enter (vs := [Vi n]) Tryz.func30 rfl Tryz.ntmps30 rfl ?_
 refine Zs (Zr ?_)
 refine Xa ?_
 refine Ze (Zt (Zs (Zr ?_)))
 refine x_buildSliceL (cs := titL.map Value.string) rfl rfl rfl u38 sz9 zr9 rfl rfl rfl ?_
 intro p3
 refine Xm ?_
 refine x_callv (v := Vi (((n % 5).toNat : Nat) : Int)) rfl rfl rfl Tryz.func54 Zk rfl (fun w1 hw1 => by rw [Int.toNat_of_nonneg (Int.emod_nonneg n (by decide))]; exact r_mod n 5 w1 hn (by omega)) ?_
 refine Xv rfl (v_indexAddr u38 sz9 rfl rfl (hj5) rfl) ?_
 refine Xl rfl u9 rfl (at_ownL (vs := titL.map Value.string) (v := Value.string (titN n)) (.head _) (by rw [Nat.zero_add, Nat.mul_one, List.getElem?_map]; unfold titN; rw [List.getD_eq_getElem?_getD, List.getElem?_eq_getElem hj5]; rfl)) ?_
 refine Xa ?_
 refine Ze (Zt (w_ret ?_))
 refine ret1 rfl rfl (fun w' hm => ⟨?_, hm.base (by simp)⟩)
 rfl
open Go.RowKit Go.PK
theorem w_memH {P : Program} {c : Code} {Q : Exit → Act → World → Prop} {n : Nat} {l : List (Nat × Value)} {own own' : List (Nat × Obj)} {ro : List Snap} (hm : ∀ w, Mem w own ro → Mem w own' ro) (h : W P c Q n l own' ro) : W P c Q n l own ro := fun a w ha hw => h a w ha (hm w hw)
theorem ap148 : (Tryz.prog.info? 148).map (fun j => (j.zero, j.size, j.bytes)) = some (some (.agg #[Vi 0, .string ⟨#[]⟩, .slice none 0 0, .slice none 0 0, Vi 0]), 5, 80) := by kernel_rfl
theorem HRO_same {hs : List HR} {i : Nat} (hi : i < hs.length) {x' : HR} (h : hrO x' = hrO hs[i]) : HRO (hs.set i x') = HRO hs := by
 obtain ⟨A1, C1, h1, h2⟩ := HRO_set hi x'
 rw [h1, h2, h]
theorem HRO_spl {hs : List HR} {i : Nat} (hi : i < hs.length) : ∃ A C, HRO hs = A ++ (hrO hs[i] ++ C) ∧ ∀ x', HRO (hs.set i x') = A ++ (hrO x' ++ C) := by
 refine ⟨HRO (hs.take i), HRO (hs.drop (i + 1)), ?_, fun x' => ?_⟩
 ·unfold HRO
  conv => lhs; rw [show hs = hs.take i ++ hs[i] :: hs.drop (i + 1) from by rw [List.getElem_cons_drop, List.take_append_drop]]
  rw [List.flatMap_append, List.flatMap_cons]
 unfold HRO
 rw [List.set_eq_take_append_cons_drop, if_pos hi, List.flatMap_append, List.flatMap_cons]
theorem ap150 : (Tryz.prog.info? 150).map (fun j => (j.zero, j.size, j.bytes)) = some (some (.agg #[.string ⟨#[]⟩, Vi 0]), 2, 24) := by kernel_rfl
theorem app_none {s : SG8} {f : FD} (h : accS s.hs f = none) : applyS s f = ⟨s.hs, s.ref ++ [f]⟩ := by unfold applyS; rw [h]
theorem app_some {s : SG8} {f : FD} {l : List HG} (h : accS s.hs f = some l) : applyS s f = ⟨l, s.ref⟩ := by unfold applyS; rw [h]
set_option maxHeartbeats 4000000 in
theorem r_State {pm : Nat} {M : RowS} {fs : List FD} (w : World) (hp : w.cell? ⟨pm, 0, none⟩ = some (rowV M fs.length)) (hR : rowOK 6 M fs.length (fdsC fs)) (hW : ∀ q ∈ rowO 28 M, w.heap[q.1]? = some q.2) (hok : FsOK fs) (hsz : ∀ q ∈ fs, q.txt.size ≤ 4000000) :
  Calls Tryz.prog 65 #[Pt pm] w fun e w' => ∃ x : SR, e = .returned (Pt x.ps) ∧ SRK x (stF fs) ∧ Mem w' (SRO x (stF fs).ref.length) [(w, fun _ => True)] := by
 have hle := hok.len
 refine enter (vs := [Pt pm]) Tryz.func65 rfl Tryz.ntmps65 rfl ?_
 refine Zs (Zr ?_)
 refine Xa ?_
 refine Ze (Zt (Zs (Zr ?_)))
 refine Xv rfl (v_buildL (places := [(0, 1), (1, 1)]) u144 zr144 Zk rfl rfl) ?_
 refine x_box rfl rfl rfl rfl ?_
 intro p9
 refine Xa ?_
 refine Ze (Zt (Zs (Zs (Zr ?_))))
 refine Xa ?_
 refine Ze (Zt (w_block ?_))
 refine w_loop (σ := Nat × SR) (fun z => z.1 ≤ fs.length ∧ SRK z.2 (stF (fs.take z.1))) (fun z => [(0, Pt pm), (3, Pt z.2.ps), (4, Vi (z.1 : Nat))]) (fun z => SRO z.2 (stF (fs.take z.1)).ref.length) (fun z => [(w, fun _ => True)]) (fun z => fs.length - z.1) ((0, ⟨p9, none, [], none⟩)) (⟨Nat.zero_le _, SRK.zero p9⟩) (l_start Zu (fun _ h => h)) ?_
 rintro ⟨k, x⟩ ⟨hk, hx⟩
 refine w_state ([(0, Pt pm), (3, Pt x.ps), (4, Vi (k : Nat))]) (SRO x (stF (fs.take k)).ref.length) ([(w, fun _ => True)]) ?_
 dsimp only at hk hx
 refine Zs (Zs (Zr ?_))
 refine Xm ?_
 refine Xm ?_
 refine Xn ?_
 refine Xf 0 rfl u48 rfl sz24 ?_
 refine Xl rfl u24 rfl (at_ro (.head _) trivial hp) ?_
 refine Xv (v := Vi (fs.length : Nat)) rfl (v_len_slice u24 rfl) ?_
 refine Xb rfl (v_lss rfl rfl) fun b16 hb16 => ?_
 refine Ze (Zt ?_)
 refine w_cond rfl (fun hc16 => ?_) fun hc16 => ?_
 ·simp only [hb16, Qz, ne_eq] at hc16
  have hkl : k < fs.length := by omega
  obtain ⟨g8, cs8, c8, hRg, hcp, hc8⟩ := fd_cell hR hkl
  have hcell8 : ∀ i9 v, (fs[k].cells)[i9]? = some v → w.cell? ⟨g8, k * 6 + i9, none⟩ = some v := fun i9 v hv => (by have hg := hW (g8, .cells cs8.toArray 28 (0, 0)) (by rw [hRg]; exact .head _); have hi : i9 < 6 := (List.getElem?_eq_some_iff.1 hv).1; rw [cell_of_row w g8 _ _ 28 (0, 0) hg, List.getElem?_toArray, hc8 i9 hi]; exact hv)
  have hacy : Acy (gsR x.hs) := by rw [hx.hs]; exact fs_acy hok k
  have hbd := fs_bnd hok k
  have hlen : x.hs.length ≤ 100000 := by have q1 := hbd.hs; rw [← hx.hs] at q1; unfold gsR at q1; rw [List.length_map] at q1; omega
  have hspl : ∀ y ∈ x.hs, y.g.spl.length ≤ 100000 := fun y hy => by have q1 := (hbd.oth y.g (by rw [← hx.hs]; exact List.mem_map_of_mem hy)).2; omega
  have hkd := rt_kind (hok.rt _ (List.getElem_mem hkl))
  refine w_skip (Zt (Zs (w_block (Zs (Zr ?_)))))
  refine Xm ?_
  refine Xn ?_
  refine Xf 0 rfl u48 rfl sz24 ?_
  refine Xv rfl (Vl u24 rfl) ?_
  refine Xm ?_
  refine Xv rfl (v_indexAddr u24 sz28 (congrArg (fun R => some (rowV R fs.length)) hRg) rfl (hkl) rfl) ?_
  refine Xv rfl (v_loadN (vs := fs[k].cells) u28 rfl sz28 rfl (fun i hi => at_ro (.head _) trivial (by rw [Nat.zero_add]; exact hcell8 i _ (List.getElem?_eq_getElem hi)))) ?_
  refine x_alloc rfl rfl rfl zr28 ?_
  intro p5
  refine x_store0 [] rfl rfl rfl rfl sz28 rfl rfl ?_
  refine Ze (Zt (Zs (Zr ?_)))
  refine Xm ?_
  refine Xv (v := Value.agg fs[k].cells.toArray) rfl (v_load_blk u28 rfl rfl (.head _) (by exact sz28)) ?_
  refine x_callb rfl rfl rfl Tryz.func95 Zk rfl (fun w1 hw1 => r_refuses w1 (hx.rd (L := [_]) (hw1.perm (List.perm_append_comm (l₁ := [_])))) hlen hacy hspl fs[k] hkd) fun b28 hb28 => ?_
  refine Xa ?_
  refine Ze (Zt (Zs (Zs (Zr ?_))))
  refine Xm ?_
  refine Ze (Zt ?_)
  refine w_cond rfl (fun hc29 => ?_) fun hc29 => ?_
  ·have hno : accS (stF (fs.take k)).hs fs[k] = none := by
    have q1 := hb28.symm.trans hc29
    rw [hx.hs] at q1
    exact Option.isNone_iff_eq_none.1 q1
   refine Zs ?_
   refine rg_inv ([(p5, Obj.cells fs[k].cells.toArray 28), (Bk x.ps [rowV x.H x.hs.length, rowV x.R (stF (fs.take k)).ref.length] 144)]) 10 (.flt 0 (.flt 1 (.flt 2 (.flt 3 (.flt 4 (.flt 5 (.gr 6 (.gr 7 (.flt 8 (.flt 9 .done)) .nil) .nil))))))) (((List.nil_sublist _).cons_cons _).cons_cons _) Zk Zk ?_
   refine j_val rfl rfl (v_move rfl) ?_
   refine j_val rfl rfl (v_move rfl) ?_
   refine j_val rfl rfl (v_nilCheck rfl) ?_
   refine j_val rfl rfl (v_fieldAddr (off' := 1) u144 rfl sz24 (by decide) rfl rfl) ?_
   refine j_val rfl rfl (v_load u24 rfl rfl (at_ownL (vs := [rowV x.H x.hs.length, rowV x.R (stF (fs.take k)).ref.length]) (.tail _ (.head _)) rfl)) ?_
   refine j_val rfl rfl (v_load_blk u28 rfl rfl (.head _) (by exact sz28)) ?_
   refine j_gr ?_ j_nil
   refine x_buildSliceL (cs := fs[k].cells) rfl rfl rfl u24 sz28 zr28 rfl rfl rfl ?_
   intro p36
   refine Ze ?_
   refine j_end ((((List.nil_sublist _).cons_cons _).cons_cons _).cons _) ?_
   refine j_gr ?_ j_nil
   refine x_append (e := 28) ((p36, Obj.cells fs[k].cells.toArray 28 (0, 0)) :: (p5, Obj.cells fs[k].cells.toArray 28) :: (Bk x.ps [rowV x.H x.hs.length, rowV x.R (stF (fs.take k)).ref.length] 144) :: rowO 148 x.H) (l2 := HRO x.hs) x.R (len := (stF (fs.take k)).ref.length) (xs := fdsC (stF (fs.take k)).ref) rfl rfl rfl rfl (by unfold SRO; simp only [List.cons_append, List.append_assoc]; rfl) hx.rf u24 ap28 rfl rfl (m := 1) (news := fs[k].cells) (fun i hi => at_ownL (vs := fs[k].cells) (.head _) (by rw [Nat.zero_add]; exact List.getElem?_eq_getElem hi)) rfl (by have := hbd.ref; simp only [maxLen]; omega) (by have := hbd.ref; omega) fun R' hR' => ?_
   refine Ze ?_
   refine j_end ((((List.nil_sublist _).cons_cons _).cons_cons _).cons _) ?_
   refine j_val rfl rfl (v_nilCheck rfl) ?_
   refine j_val rfl rfl (v_fieldAddr (off' := 1) u144 rfl sz24 (by decide) rfl rfl) ?_
   refine j_done ?_
   refine x_store (cs := [rowV x.H x.hs.length, rowV x.R (stF (fs.take k)).ref.length]) (off := 1) (e := 144) (l2 := rowO 148 x.H ++ (rowO 28 R' ++ HRO x.hs)) [(p36, Obj.cells fs[k].cells.toArray 28 (0, 0)), (p5, Obj.cells fs[k].cells.toArray 28)] rfl rfl rfl (by simp) sz24 rfl (by show 1 + 1 ≤ 2; decide) ?_
   refine Ze (Zt ?_)
   refine w_exit ?_
   refine t_exit ?_
   refine b_hit ?_
   refine Zt (Zr ?_)
   refine Xm ?_
   refine Xv rfl (v_addi rfl rfl rfl Zo) ?_
   refine Xa ?_
   refine Ze ?_
   exact l_norm (k + 1, { x with R := R' }) ⟨hkl, by dsimp only; rw [take_st hkl, app_none hno]; exact ⟨hx.hs, hx.row, hx.ok, by rw [List.length_append, fdsC_app]; exact (by simpa [fdsC] using hR')⟩⟩ (by simp only; omega) Zu (fun w1 h => (h.less ((List.sublist_cons_self _ _).trans (List.sublist_cons_self _ _)) (fun _ h => h)).to (by dsimp only; rw [take_st hkl, app_none hno]; dsimp only; rw [List.length_append]; rfl))
  obtain ⟨l2, hso⟩ : ∃ l, accS (stF (fs.take k)).hs fs[k] = some l := by
   have q1 := hb28.symm.trans hc29
   rw [hx.hs] at q1
   cases hq : accS (stF (fs.take k)).hs fs[k] with
   | none => rw [hq] at q1; cases q1
   | some l => exact ⟨l, rfl⟩
  refine w_skip (Zt (Zs (Zr ?_)))
  refine Xm ?_
  refine Xf 3 rfl u28 rfl sz3 ?_
  refine Xl rfl u3 rfl (at_ownL (vs := fs[k].cells) (.head _) rfl) ?_
  refine x_callv rfl rfl rfl Tryz.func96 Zk rfl (fun w1 hw1 => r_find w1 (hx.rd (L := [_]) (hw1.perm (List.perm_append_comm (l₁ := [_])))) hlen fs[k].hd) ?_
  refine Xa ?_
  refine Ze (Zt (Zs (Zr ?_)))
  refine Xf 2 rfl u28 rfl sz3 ?_
  refine Xl rfl u3 rfl (at_ownL (vs := fs[k].cells) (.head _) rfl) ?_
  refine Ze (Zt (w_block (Zs (Zr ?_))))
  refine Xb rfl (v_eql rfl rfl) fun b47 hb47 => ?_
  refine Xa ?_
  refine Ze (Zt ?_)
  refine w_cond rfl (fun hc46 => ?_) fun hc46 => ?_
  ·simp only [hb47, Qz, ne_eq] at hc46
   have hk1 : fs[k].kind = 1 := hc46
   have hnew := acc_new (hs := (stF (fs.take k)).hs) hk1
   have hl2 : l2 = (stF (fs.take k)).hs ++ [⟨fs[k].hd, fs[k].txt, [], [], 0⟩] := by
    rw [hso] at hnew
    cases hq : lkH (stF (fs.take k)).hs fs[k].hd with
    | none => rw [hq] at hnew; injection hnew
    | some q => rw [hq] at hnew; cases hnew
   subst hl2
   refine rg_inv ([(p5, Obj.cells fs[k].cells.toArray 28), (Bk x.ps [rowV x.H x.hs.length, rowV x.R (stF (fs.take k)).ref.length] 144)]) 14 (.flt 0 (.flt 1 (.flt 2 (.flt 3 (.flt 4 (.flt 5 (.flt 6 (.flt 7 (.flt 8 (.flt 9 (.gr 10 (.gr 11 (.flt 12 (.flt 13 .done)) .nil) .nil))))))))))) (((List.nil_sublist _).cons_cons _).cons_cons _) Zk Zk ?_
   refine j_val rfl rfl (v_move rfl) ?_
   refine j_val rfl rfl (v_move rfl) ?_
   refine j_val rfl rfl (v_nilCheck rfl) ?_
   refine j_val rfl rfl (v_fieldAddr (off' := 0) u144 rfl sz142 (by decide) rfl rfl) ?_
   refine j_val rfl rfl (v_load u142 rfl rfl (at_ownL (vs := [rowV x.H x.hs.length, rowV x.R (stF (fs.take k)).ref.length]) (.tail _ (.head _)) rfl)) ?_
   refine j_val rfl rfl (v_fieldAddr (off' := 3) u28 rfl sz3 (by decide) rfl rfl) ?_
   refine j_val rfl rfl (v_load u3 rfl rfl (at_ownL (vs := fs[k].cells) (.head _) rfl)) ?_
   refine j_val rfl rfl (v_fieldAddr (off' := 5) u28 rfl sz9 (by decide) rfl rfl) ?_
   refine j_val rfl rfl (v_load u9 rfl rfl (at_ownL (vs := fs[k].cells) (.head _) rfl)) ?_
   refine j_val (v := Value.agg (hrC (⟨⟨fs[k].hd, fs[k].txt, [], [], 0⟩, none, none⟩ : HR)).toArray) rfl rfl (v_buildL (cs := hrC (⟨⟨fs[k].hd, fs[k].txt, [], [], 0⟩, none, none⟩ : HR)) (places := [(0, 1), (1, 1), (2, 1), (3, 1), (4, 1)]) u148 zr148 Zk rfl rfl) ?_
   refine j_gr ?_ j_nil
   refine x_buildSliceL (cs := hrC (⟨⟨fs[k].hd, fs[k].txt, [], [], 0⟩, none, none⟩ : HR)) rfl rfl rfl u142 sz148 zr148 rfl rfl rfl ?_
   intro p58
   refine Ze ?_
   refine j_end ((((List.nil_sublist _).cons_cons _).cons_cons _).cons _) ?_
   refine j_gr ?_ j_nil
   refine x_append (e := 148) [(Bk p58 (hrC (⟨⟨fs[k].hd, fs[k].txt, [], [], 0⟩, none, none⟩ : HR)) 148), (p5, Obj.cells fs[k].cells.toArray 28), (Bk x.ps [rowV x.H x.hs.length, rowV x.R (stF (fs.take k)).ref.length] 144)] (l2 := rowO 28 x.R ++ HRO x.hs) x.H (len := x.hs.length) (xs := x.hs.flatMap hrC) rfl rfl rfl rfl rfl hx.row u142 ap148 rfl rfl (m := 1) (news := hrC (⟨⟨fs[k].hd, fs[k].txt, [], [], 0⟩, none, none⟩ : HR)) (fun i hi => at_ownL (vs := hrC (⟨⟨fs[k].hd, fs[k].txt, [], [], 0⟩, none, none⟩ : HR)) (.head _) (by rw [Nat.zero_add]; exact List.getElem?_eq_getElem hi)) rfl Zx (by omega) fun H' hH' => ?_
   refine Ze ?_
   refine j_end ((((List.nil_sublist _).cons_cons _).cons_cons _).cons _) ?_
   refine j_val rfl rfl (v_nilCheck rfl) ?_
   refine j_val rfl rfl (v_fieldAddr (off' := 0) u144 rfl sz142 (by decide) rfl rfl) ?_
   refine j_done ?_
   refine x_store (cs := [rowV x.H x.hs.length, rowV x.R (stF (fs.take k)).ref.length]) (off := 0) (e := 144) (l2 := rowO 148 H' ++ (rowO 28 x.R ++ HRO x.hs)) [(Bk p58 (hrC (⟨⟨fs[k].hd, fs[k].txt, [], [], 0⟩, none, none⟩ : HR)) 148), (p5, Obj.cells fs[k].cells.toArray 28)] rfl rfl rfl rfl sz142 rfl (by show 0 + 1 ≤ 2; decide) ?_
   refine Ze (b_norm (b_norm (Zt (Zr ?_))))
   refine Xm ?_
   refine Xv rfl (v_addi rfl rfl rfl Zo) ?_
   refine Xa ?_
   refine Ze ?_
   exact l_norm (k + 1, { x with H := H', hs := x.hs ++ [(⟨⟨fs[k].hd, fs[k].txt, [], [], 0⟩, none, none⟩ : HR)] }) ⟨hkl, by dsimp only; rw [take_st hkl, app_some hso]; exact ⟨by show gsR (x.hs ++ [_]) = _; unfold gsR; rw [List.map_append]; have q1 := hx.hs; unfold gsR at q1; rw [q1]; rfl, by rw [List.length_append, List.flatMap_append]; exact (by simpa using hH'), fun y hy => (List.mem_append.1 hy).elim (hx.ok y) (fun h => by rw [List.mem_singleton.1 h]; exact ⟨rowOK_nil, rowOK_nil⟩), hx.rf⟩⟩ (by simp only; omega) Zu (fun w1 h => (h.less ((List.sublist_cons_self _ _).trans (List.sublist_cons_self _ _)) (fun _ h => h)).to (by dsimp only; rw [take_st hkl, app_some hso]; simp [SRO, HRO, hrO, rowO]; rfl))
  simp only [hb47, Qz, ne_eq] at hc46
  have hk1 : fs[k].kind ≠ 1 := hc46
  obtain ⟨g0, hg0, hg1⟩ : ∃ g, lkH (stF (fs.take k)).hs fs[k].hd = some g ∧ g.into = 0 := by
   cases hq : lkH (stF (fs.take k)).hs fs[k].hd with
   | none => rw [acc_dead hk1 (fun g hg => by rw [hq] at hg; cases hg)] at hso; cases hso
   | some g =>
    by_cases h0 : g.into = 0
    ·exact ⟨g, rfl, h0⟩
    rw [acc_dead hk1 (fun g' hg => by rw [hq] at hg; injection hg with hg; rw [← hg]; exact h0)] at hso; cases hso
  obtain ⟨i, hi, hf⟩ := fidx_lt ((fdR_lk x.hs fs[k].hd).2.2.2 (by rw [hx.hs, hg0]; rfl))
  have hf : fdR x.hs fs[k].hd = (i : Nat) := hf
  have hgi : x.hs[i].g = g0 := by have q1 := (fdR_lk x.hs fs[k].hd).1 i hi hf; rw [hx.hs, hg0] at q1; injection q1 with q1; exact q1.symm
  have hgid : g0.id = fs[k].hd := (lkH_mem hg0).2
  obtain ⟨gH, csH, cpH, hRH, hcpH, hclH⟩ := row_at (c := hrC) (m := 5) (fun _ => rfl) (by decide) hx.row hi
  have hrow := hx.row
  rw [hRH] at hrow
  rw [hf]
  refine w_memH (own' := (p5, Obj.cells fs[k].cells.toArray 28) :: (Bk x.ps [Value.slice (some ⟨gH, 0, none⟩) x.hs.length cpH, rowV x.R (stF (fs.take k)).ref.length] 144) :: (Bk gH csH 148) :: (rowO 28 x.R ++ HRO x.hs)) (fun w1 h => h.to (by unfold SRO; rw [hRH]; rfl)) ?_
  refine Zs (Zr ?_)
  refine Xb rfl (v_eql rfl rfl) fun b63 hb63 => ?_
  refine Xa ?_
  refine Ze (Zt ?_)
  refine w_cond rfl (fun hc62 => ?_) fun hc62 => ?_
  ·simp only [hb63, Qz, ne_eq] at hc62
   have hk2 : fs[k].kind = 2 := hc62
   have hl2 := acc_name hk2 hg0 hg1
   rw [hso] at hl2
   injection hl2 with hl2
   subst hl2
   refine Zs ?_
   obtain ⟨A1, C1, hA1, hA2⟩ := HRO_spl hi
   have hoi := hx.ok _ (List.getElem_mem hi)
   have hbi := hbd.oth x.hs[i].g (by rw [← hx.hs]; exact List.mem_map_of_mem (List.getElem_mem hi))
   refine w_memH (own' := (p5, Obj.cells fs[k].cells.toArray 28) :: (Bk x.ps [Value.slice (some ⟨gH, 0, none⟩) x.hs.length cpH, rowV x.R (stF (fs.take k)).ref.length] 144) :: (Bk gH csH 148) :: (rowO 28 x.R ++ (A1 ++ (rowO 9 x.hs[i].O ++ (rowO 150 x.hs[i].S ++ C1))))) (fun w1 h => h.to (by rw [hA1]; unfold hrO; rw [List.append_assoc (rowO 9 x.hs[i].O)])) ?_
   refine rg_inv ([(p5, Obj.cells fs[k].cells.toArray 28), (Bk x.ps [Value.slice (some ⟨gH, 0, none⟩) x.hs.length cpH, rowV x.R (stF (fs.take k)).ref.length] 144), (Bk gH csH 148)]) 25 (.flt 0 (.flt 1 (.flt 2 (.flt 3 (.flt 4 (.flt 5 (.flt 6 (.flt 7 (.flt 8 (.flt 9 (.flt 10 (.flt 11 (.flt 12 (.flt 13 (.flt 14 (.flt 15 (.flt 16 (.flt 17 (.flt 18 (.flt 19 (.flt 20 (.gr 21 (.gr 22 (.flt 23 (.flt 24 .done)) .nil) .nil)))))))))))))))))))))) ((((List.nil_sublist _).cons_cons _).cons_cons _).cons_cons _) Zk Zk ?_
   refine j_val rfl rfl (v_move rfl) ?_
   refine j_val rfl rfl (v_nilCheck rfl) ?_
   refine j_val rfl rfl (v_fieldAddr (off' := 0) u144 rfl sz142 (by decide) rfl rfl) ?_
   refine j_val rfl rfl (v_load u142 rfl rfl (at_ownL (vs := [Value.slice (some ⟨gH, 0, none⟩) x.hs.length cpH, rowV x.R (stF (fs.take k)).ref.length]) (.tail _ (.head _)) rfl)) ?_
   refine j_val rfl rfl (v_move rfl) ?_
   refine j_val rfl rfl (v_move rfl) ?_
   refine j_val rfl rfl (v_nilCheck rfl) ?_
   refine j_val rfl rfl (v_fieldAddr (off' := 0) u144 rfl sz142 (by decide) rfl rfl) ?_
   refine j_val rfl rfl (v_load u142 rfl rfl (at_ownL (vs := [Value.slice (some ⟨gH, 0, none⟩) x.hs.length cpH, rowV x.R (stF (fs.take k)).ref.length]) (.tail _ (.head _)) rfl)) ?_
   refine j_val rfl rfl (v_move rfl) ?_
   refine j_val rfl rfl (v_indexAddr (j := i) u142 sz148 rfl rfl hi (Nat.zero_add _)) ?_
   refine j_val rfl rfl (v_fieldAddr u148 rfl sz38 (by decide) rfl rfl) ?_
   refine j_val rfl rfl (v_load u38 rfl rfl (at_ownL (vs := csH) (v := rowV x.hs[i].O x.hs[i].g.oth.length) (.tail _ (.tail _ (.head _))) (hclH 2 (by decide)))) ?_
   refine j_val rfl rfl (v_move rfl) ?_
   refine j_val rfl rfl (v_nilCheck rfl) ?_
   refine j_val rfl rfl (v_fieldAddr (off' := 0) u144 rfl sz142 (by decide) rfl rfl) ?_
   refine j_val rfl rfl (v_load u142 rfl rfl (at_ownL (vs := [Value.slice (some ⟨gH, 0, none⟩) x.hs.length cpH, rowV x.R (stF (fs.take k)).ref.length]) (.tail _ (.head _)) rfl)) ?_
   refine j_val rfl rfl (v_move rfl) ?_
   refine j_val rfl rfl (v_indexAddr (j := i) u142 sz148 rfl rfl hi (Nat.zero_add _)) ?_
   refine j_val rfl rfl (v_fieldAddr u148 rfl sz9 (by decide) rfl rfl) ?_
   refine j_val rfl rfl (v_load u9 rfl rfl (at_ownL (vs := csH) (v := Value.string x.hs[i].g.name) (.tail _ (.tail _ (.head _))) (hclH 1 (by decide)))) ?_
   refine j_gr ?_ j_nil
   refine x_buildSliceL (cs := [Value.string x.hs[i].g.name]) rfl rfl rfl u38 sz9 zr9 rfl rfl rfl ?_
   intro p85
   refine Ze ?_
   refine j_end (((((List.nil_sublist _).cons_cons _).cons_cons _).cons_cons _).cons _) ?_
   refine j_gr ?_ j_nil
   refine x_append (e := 9) ((Bk p85 [Value.string x.hs[i].g.name] 9) :: (p5, Obj.cells fs[k].cells.toArray 28) :: (Bk x.ps [Value.slice (some ⟨gH, 0, none⟩) x.hs.length cpH, rowV x.R (stF (fs.take k)).ref.length] 144) :: (Bk gH csH 148) :: (rowO 28 x.R ++ A1)) (l2 := rowO 150 x.hs[i].S ++ C1) x.hs[i].O (len := x.hs[i].g.oth.length) (xs := x.hs[i].g.oth.map Value.string) rfl rfl rfl rfl (by simp only [List.cons_append, List.append_assoc]) hoi.1 u38 ap9 rfl rfl (m := 1) (news := [Value.string x.hs[i].g.name]) (fun i9 hi9 => at_ownL (vs := [Value.string x.hs[i].g.name]) (.head _) (by rw [Nat.zero_add]; exact List.getElem?_eq_getElem hi9)) rfl (by have := hbi.1; simp only [maxLen]; omega) (by have := hbi.1; omega) fun O' hO' => ?_
   refine x_mem (own' := (Bk p85 [Value.string x.hs[i].g.name] 9) :: (p5, Obj.cells fs[k].cells.toArray 28) :: (Bk x.ps [Value.slice (some ⟨gH, 0, none⟩) x.hs.length cpH, rowV x.R (stF (fs.take k)).ref.length] 144) :: (Bk gH csH 148) :: (rowO 28 x.R ++ (A1 ++ (rowO 9 O' ++ (rowO 150 x.hs[i].S ++ C1))))) (fun _ h => h.to (by simp only [List.cons_append, List.append_assoc])) ?_
   refine Ze ?_
   refine j_end (((((List.nil_sublist _).cons_cons _).cons_cons _).cons_cons _).cons _) ?_
   refine j_val rfl rfl (v_indexAddr (j := i) u142 sz148 rfl rfl hi (Nat.zero_add _)) ?_
   refine j_val rfl rfl (v_fieldAddr u148 rfl sz38 (by decide) rfl rfl) ?_
   refine j_done ?_
   refine x_store (cs := csH) (off := i * 5 + 2) (e := 148) (l2 := rowO 28 x.R ++ (A1 ++ (rowO 9 O' ++ (rowO 150 x.hs[i].S ++ C1)))) [(Bk p85 [Value.string x.hs[i].g.name] 9), (p5, Obj.cells fs[k].cells.toArray 28), (Bk x.ps [Value.slice (some ⟨gH, 0, none⟩) x.hs.length cpH, rowV x.R (stF (fs.take k)).ref.length] 144)] rfl rfl rfl rfl sz38 rfl (by obtain ⟨_, q2, _, q4, _⟩ := hrow; dsimp only at q2 q4; omega) ?_
   refine Ze (Zt ?_)
   have hr2 := row_fld (c := hrC) (m := 5) (fun _ => rfl) hrow hi (f := 2) (by decide) (v := rowV O' (x.hs[i].g.oth.length + 1)) (x := (⟨{ x.hs[i].g with oth := x.hs[i].g.oth ++ [x.hs[i].g.name] }, O', x.hs[i].S⟩ : HR)) (by show hrC _ = _; unfold hrC; rw [List.length_append]; rfl)
   have hr1 := row_fld (c := hrC) (m := 5) (fun _ => rfl) hr2 (i := i) (by rw [List.length_set]; exact hi) (f := 1) (by decide) (v := Value.string fs[k].txt) (x := (⟨{ x.hs[i].g with name := fs[k].txt, oth := x.hs[i].g.oth ++ [x.hs[i].g.name] }, O', x.hs[i].S⟩ : HR)) (by rw [List.getElem_set_self]; rfl)
   rw [List.set_set] at hr1
   refine rg_draw 9 [(true, 0), (true, 1), (true, 2), (true, 3), (true, 4), (true, 5), (true, 6), (true, 7), (true, 8)] Zk Zk ?_
   refine Xm ?_
   refine Xn ?_
   refine Xf 0 rfl u144 rfl sz142 ?_
   refine Xl rfl u142 rfl (at_ownL (vs := [Value.slice (some ⟨gH, 0, none⟩) x.hs.length cpH, rowV x.R (stF (fs.take k)).ref.length]) (.tail _ (.tail _ (.head _))) rfl) ?_
   refine Xm ?_
   refine Xf 5 rfl u28 rfl sz9 ?_
   refine Xl rfl u9 rfl (at_ownL (vs := fs[k].cells) (.tail _ (.head _)) rfl) ?_
   refine Xv rfl (v_indexAddr (j := i) u142 sz148 rfl rfl hi (Nat.zero_add _)) ?_
   refine Xf _ rfl u148 rfl sz9 ?_
   refine x_store (cs := csH.take (i * 5 + 2) ++ [rowV O' (x.hs[i].g.oth.length + 1)] ++ csH.drop (i * 5 + 2 + 1)) (off := i * 5 + 1) (e := 148) (l2 := rowO 28 x.R ++ (A1 ++ (rowO 9 O' ++ (rowO 150 x.hs[i].S ++ C1)))) [(Bk p85 [Value.string x.hs[i].g.name] 9), (p5, Obj.cells fs[k].cells.toArray 28), (Bk x.ps [Value.slice (some ⟨gH, 0, none⟩) x.hs.length cpH, rowV x.R (stF (fs.take k)).ref.length] 144)] rfl rfl rfl rfl sz9 rfl (by obtain ⟨_, q2, _, q4, _⟩ := hr2; dsimp only at q2 q4; rw [List.length_set] at q2; omega) ?_
   refine Ze (b_norm (b_norm (Zt (Zr ?_))))
   refine Xm ?_
   refine Xv rfl (v_addi rfl rfl rfl Zo) ?_
   refine Xa ?_
   refine Ze ?_
   exact l_norm (k + 1, { x with hs := x.hs.set i (⟨{ x.hs[i].g with name := fs[k].txt, oth := x.hs[i].g.oth ++ [x.hs[i].g.name] }, O', x.hs[i].S⟩ : HR), H := some (gH, (csH.take (i * 5 + 2) ++ [rowV O' (x.hs[i].g.oth.length + 1)] ++ csH.drop (i * 5 + 2 + 1)).take (i * 5 + 1) ++ [Value.string fs[k].txt] ++ (csH.take (i * 5 + 2) ++ [rowV O' (x.hs[i].g.oth.length + 1)] ++ csH.drop (i * 5 + 2 + 1)).drop (i * 5 + 1 + 1), cpH) }) ⟨hkl, by dsimp only; rw [take_st hkl, app_some hso, ← hgi]; exact hx.set hi hf (x' := (⟨{ x.hs[i].g with name := fs[k].txt, oth := x.hs[i].g.oth ++ [x.hs[i].g.name] }, O', x.hs[i].S⟩ : HR)) (by show x.hs[i].g.id = _; rw [hgi]; exact hgid) ⟨by dsimp only; rw [List.length_append, List.map_append]; exact hO', hoi.2⟩ hr1⟩ (by simp only; omega) Zu (fun w1 h => (h.less ((List.sublist_cons_self _ _).trans (List.sublist_cons_self _ _)) (fun _ h => h)).to (by dsimp only; rw [take_st hkl, app_some hso]; unfold SRO; dsimp only; rw [List.length_set, hA2]; unfold hrO; dsimp only; rw [List.append_assoc (rowO 9 O')]; rfl))
  simp only [hb63, Qz, ne_eq] at hc62
  refine Zs (Zr ?_)
  refine Xb rfl (v_eql rfl rfl) fun b99 hb99 => ?_
  refine Xa ?_
  refine Ze (Zt ?_)
  refine w_cond rfl (fun hc98 => ?_) fun hc98 => ?_
  ·simp only [hb99, Qz, ne_eq] at hc98
   have hk3 : fs[k].kind = 3 := hc98
   have hl2 := acc_see hk3 hg0 hg1
   rw [hso] at hl2
   injection hl2 with hl2
   subst hl2
   obtain ⟨A1, C1, hA1, hA2⟩ := HRO_spl hi
   have hoi := hx.ok _ (List.getElem_mem hi)
   have hbi := hbd.oth x.hs[i].g (by rw [← hx.hs]; exact List.mem_map_of_mem (List.getElem_mem hi))
   refine w_memH (own' := (p5, Obj.cells fs[k].cells.toArray 28) :: (Bk x.ps [Value.slice (some ⟨gH, 0, none⟩) x.hs.length cpH, rowV x.R (stF (fs.take k)).ref.length] 144) :: (Bk gH csH 148) :: (rowO 28 x.R ++ (A1 ++ (rowO 9 x.hs[i].O ++ (rowO 150 x.hs[i].S ++ C1))))) (fun w1 h => h.to (by rw [hA1]; unfold hrO; rw [List.append_assoc (rowO 9 x.hs[i].O)])) ?_
   refine rg_inv ([(p5, Obj.cells fs[k].cells.toArray 28), (Bk x.ps [Value.slice (some ⟨gH, 0, none⟩) x.hs.length cpH, rowV x.R (stF (fs.take k)).ref.length] 144), (Bk gH csH 148)]) 19 (.flt 0 (.flt 1 (.flt 2 (.flt 3 (.flt 4 (.flt 5 (.flt 6 (.flt 7 (.flt 8 (.flt 9 (.flt 10 (.flt 11 (.flt 12 (.flt 13 (.flt 14 (.gr 15 (.gr 16 (.flt 17 (.flt 18 .done)) .nil) .nil)))))))))))))))) ((((List.nil_sublist _).cons_cons _).cons_cons _).cons_cons _) Zk Zk ?_
   refine j_val rfl rfl (v_move rfl) ?_
   refine j_val rfl rfl (v_nilCheck rfl) ?_
   refine j_val rfl rfl (v_fieldAddr (off' := 0) u144 rfl sz142 (by decide) rfl rfl) ?_
   refine j_val rfl rfl (v_load u142 rfl rfl (at_ownL (vs := [Value.slice (some ⟨gH, 0, none⟩) x.hs.length cpH, rowV x.R (stF (fs.take k)).ref.length]) (.tail _ (.head _)) rfl)) ?_
   refine j_val rfl rfl (v_move rfl) ?_
   refine j_val rfl rfl (v_move rfl) ?_
   refine j_val rfl rfl (v_nilCheck rfl) ?_
   refine j_val rfl rfl (v_fieldAddr (off' := 0) u144 rfl sz142 (by decide) rfl rfl) ?_
   refine j_val rfl rfl (v_load u142 rfl rfl (at_ownL (vs := [Value.slice (some ⟨gH, 0, none⟩) x.hs.length cpH, rowV x.R (stF (fs.take k)).ref.length]) (.tail _ (.head _)) rfl)) ?_
   refine j_val rfl rfl (v_move rfl) ?_
   refine j_val rfl rfl (v_indexAddr (j := i) u142 sz148 rfl rfl hi (Nat.zero_add _)) ?_
   refine j_val rfl rfl (v_fieldAddr u148 rfl sz38 (by decide) rfl rfl) ?_
   refine j_val rfl rfl (v_load u38 rfl rfl (at_ownL (vs := csH) (v := rowV x.hs[i].O x.hs[i].g.oth.length) (.tail _ (.tail _ (.head _))) (hclH 2 (by decide)))) ?_
   refine j_val rfl rfl (v_fieldAddr (off' := 5) u28 rfl sz9 (by decide) rfl rfl) ?_
   refine j_val rfl rfl (v_load u9 rfl rfl (at_ownL (vs := fs[k].cells) (.head _) rfl)) ?_
   refine j_gr ?_ j_nil
   refine x_buildSliceL (cs := [Value.string fs[k].txt]) rfl rfl rfl u38 sz9 zr9 rfl rfl rfl ?_
   intro p115
   refine Ze ?_
   refine j_end (((((List.nil_sublist _).cons_cons _).cons_cons _).cons_cons _).cons _) ?_
   refine j_gr ?_ j_nil
   refine x_append (e := 9) ((Bk p115 [Value.string fs[k].txt] 9) :: (p5, Obj.cells fs[k].cells.toArray 28) :: (Bk x.ps [Value.slice (some ⟨gH, 0, none⟩) x.hs.length cpH, rowV x.R (stF (fs.take k)).ref.length] 144) :: (Bk gH csH 148) :: (rowO 28 x.R ++ A1)) (l2 := rowO 150 x.hs[i].S ++ C1) x.hs[i].O (len := x.hs[i].g.oth.length) (xs := x.hs[i].g.oth.map Value.string) rfl rfl rfl rfl (by simp only [List.cons_append, List.append_assoc]) hoi.1 u38 ap9 rfl rfl (m := 1) (news := [Value.string fs[k].txt]) (fun i hi => at_ownL (vs := [Value.string fs[k].txt]) (.head _) (by rw [Nat.zero_add]; exact List.getElem?_eq_getElem hi)) rfl (by have := hbi.1; simp only [maxLen]; omega) (by have := hbi.1; omega) fun O' hO' => ?_
   refine x_mem (own' := (Bk p115 [Value.string fs[k].txt] 9) :: (p5, Obj.cells fs[k].cells.toArray 28) :: (Bk x.ps [Value.slice (some ⟨gH, 0, none⟩) x.hs.length cpH, rowV x.R (stF (fs.take k)).ref.length] 144) :: (Bk gH csH 148) :: (rowO 28 x.R ++ (A1 ++ (rowO 9 O' ++ (rowO 150 x.hs[i].S ++ C1))))) (fun _ h => h.to (by simp only [List.cons_append, List.append_assoc])) ?_
   refine Ze ?_
   refine j_end (((((List.nil_sublist _).cons_cons _).cons_cons _).cons_cons _).cons _) ?_
   refine j_val rfl rfl (v_indexAddr (j := i) u142 sz148 rfl rfl hi (Nat.zero_add _)) ?_
   refine j_val rfl rfl (v_fieldAddr u148 rfl sz38 (by decide) rfl rfl) ?_
   refine j_done ?_
   refine x_store (cs := csH) (off := i * 5 + 2) (e := 148) (l2 := rowO 28 x.R ++ (A1 ++ (rowO 9 O' ++ (rowO 150 x.hs[i].S ++ C1)))) [(Bk p115 [Value.string fs[k].txt] 9), (p5, Obj.cells fs[k].cells.toArray 28), (Bk x.ps [Value.slice (some ⟨gH, 0, none⟩) x.hs.length cpH, rowV x.R (stF (fs.take k)).ref.length] 144)] rfl rfl rfl rfl sz38 rfl (by obtain ⟨_, q2, _, q4, _⟩ := hrow; dsimp only at q2 q4; omega) ?_
   refine Ze (b_norm (b_norm (Zt (Zr ?_))))
   refine Xm ?_
   refine Xv rfl (v_addi rfl rfl rfl Zo) ?_
   refine Xa ?_
   refine Ze ?_
   have hr2 := row_fld (c := hrC) (m := 5) (fun _ => rfl) hrow hi (f := 2) (by decide) (v := rowV O' (x.hs[i].g.oth.length + 1)) (x := (⟨{ x.hs[i].g with oth := x.hs[i].g.oth ++ [fs[k].txt] }, O', x.hs[i].S⟩ : HR)) (by show hrC _ = _; unfold hrC; rw [List.length_append]; rfl)
   exact l_norm (k + 1, { x with hs := x.hs.set i (⟨{ x.hs[i].g with oth := x.hs[i].g.oth ++ [fs[k].txt] }, O', x.hs[i].S⟩ : HR), H := some (gH, csH.take (i * 5 + 2) ++ [rowV O' (x.hs[i].g.oth.length + 1)] ++ csH.drop (i * 5 + 2 + 1), cpH) }) ⟨hkl, by dsimp only; rw [take_st hkl, app_some hso, ← hgi]; exact hx.set hi hf (x' := (⟨{ x.hs[i].g with oth := x.hs[i].g.oth ++ [fs[k].txt] }, O', x.hs[i].S⟩ : HR)) (by show x.hs[i].g.id = _; rw [hgi]; exact hgid) ⟨by dsimp only; rw [List.length_append, List.map_append]; exact hO', hoi.2⟩ hr2⟩ (by simp only; omega) Zu (fun w1 h => (h.less ((List.sublist_cons_self _ _).trans (List.sublist_cons_self _ _)) (fun _ h => h)).to (by dsimp only; rw [take_st hkl, app_some hso]; unfold SRO; dsimp only; rw [List.length_set, hA2]; unfold hrO; dsimp only; rw [List.append_assoc (rowO 9 O')]; rfl))
  simp only [hb99, Qz, ne_eq] at hc98
  refine Zs (Zr ?_)
  refine Xb rfl (v_eql rfl rfl) fun b120 hb120 => ?_
  refine Xa ?_
  refine Ze (Zt ?_)
  refine w_cond rfl (fun hc119 => ?_) fun hc119 => ?_
  ·simp only [hb120, Qz, ne_eq] at hc119
   have hk4 : fs[k].kind = 4 := hc119
   have hmay : (lkH (stF (fs.take k)).hs fs[k].to).isSome = true ∧ rchB (stF (fs.take k)).hs fs[k].hd fs[k].to = false := by
    cases hq : lkH (stF (fs.take k)).hs fs[k].to with
    | none => rw [acc_may (by omega) (.inl hq)] at hso; cases hso
    | some q =>
     cases hr : rchB (stF (fs.take k)).hs fs[k].hd fs[k].to with
     | true => rw [acc_may (by omega) (.inr hr)] at hso; cases hso
     | false => exact ⟨rfl, rfl⟩
   have hl2 := acc_merge hk4 hg0 hg1 hmay.1 hmay.2
   rw [hso] at hl2
   injection hl2 with hl2
   subst hl2
   refine rg_draw 9 [(true, 0), (true, 1), (true, 2), (true, 3), (true, 4), (true, 5), (true, 6), (true, 7), (true, 8)] Zk Zk ?_
   refine Xm ?_
   refine Xn ?_
   refine Xf 0 rfl u144 rfl sz142 ?_
   refine Xl rfl u142 rfl (at_ownL (vs := [Value.slice (some ⟨gH, 0, none⟩) x.hs.length cpH, rowV x.R (stF (fs.take k)).ref.length]) (.tail _ (.head _)) rfl) ?_
   refine Xm ?_
   refine Xf 4 rfl u28 rfl sz3 ?_
   refine Xl rfl u3 rfl (at_ownL (vs := fs[k].cells) (.head _) rfl) ?_
   refine Xv rfl (v_indexAddr (j := i) u142 sz148 rfl rfl hi (Nat.zero_add _)) ?_
   refine Xf _ rfl u148 rfl sz3 ?_
   refine x_store (cs := csH) (off := i * 5 + 4) (e := 148) (l2 := rowO 28 x.R ++ HRO x.hs) [(p5, Obj.cells fs[k].cells.toArray 28), (Bk x.ps [Value.slice (some ⟨gH, 0, none⟩) x.hs.length cpH, rowV x.R (stF (fs.take k)).ref.length] 144)] rfl rfl rfl rfl sz3 rfl (by obtain ⟨_, q2, _, q4, _⟩ := hrow; dsimp only at q2 q4; omega) ?_
   refine Ze (b_norm (b_norm (Zt (Zr ?_))))
   refine Xm ?_
   refine Xv rfl (v_addi rfl rfl rfl Zo) ?_
   refine Xa ?_
   refine Ze ?_
   have hr4 := row_fld (c := hrC) (m := 5) (fun _ => rfl) hrow hi (f := 4) (by decide) (v := Vi fs[k].to) (x := (⟨{ x.hs[i].g with into := fs[k].to }, x.hs[i].O, x.hs[i].S⟩ : HR)) rfl
   exact l_norm (k + 1, { x with hs := x.hs.set i (⟨{ x.hs[i].g with into := fs[k].to }, x.hs[i].O, x.hs[i].S⟩ : HR), H := some (gH, csH.take (i * 5 + 4) ++ [Vi fs[k].to] ++ csH.drop (i * 5 + 4 + 1), cpH) }) ⟨hkl, by dsimp only; rw [take_st hkl, app_some hso, ← hgi]; exact hx.set hi hf (x' := (⟨{ x.hs[i].g with into := fs[k].to }, x.hs[i].O, x.hs[i].S⟩ : HR)) (by show x.hs[i].g.id = _; rw [hgi]; exact hgid) (hx.ok x.hs[i] (List.getElem_mem hi)) hr4⟩ (by simp only; omega) Zu (fun w1 h => (h.less (List.sublist_cons_self _ _) (fun _ h => h)).to (by dsimp only; rw [take_st hkl, app_some hso]; unfold SRO; dsimp only; rw [List.length_set, HRO_same hi (x' := (⟨{ x.hs[i].g with into := fs[k].to }, x.hs[i].O, x.hs[i].S⟩ : HR)) rfl]; rfl))
  simp only [hb120, Qz, ne_eq] at hc119
  refine Zs (Zr ?_)
  refine Xb rfl (v_eql rfl rfl) fun b131 hb131 => ?_
  refine Xa ?_
  refine Ze (Zt ?_)
  refine w_cond rfl (fun hc130 => ?_) fun hc130 => ?_
  ·simp only [hb131, Qz, ne_eq] at hc130
   have hk5 : fs[k].kind = 5 := hc130
   have hmay : (lkH (stF (fs.take k)).hs fs[k].to).isSome = true ∧ rchB (stF (fs.take k)).hs fs[k].hd fs[k].to = false := by
    cases hq : lkH (stF (fs.take k)).hs fs[k].to with
    | none => rw [acc_may (by omega) (.inl hq)] at hso; cases hso
    | some q =>
     cases hr : rchB (stF (fs.take k)).hs fs[k].hd fs[k].to with
     | true => rw [acc_may (by omega) (.inr hr)] at hso; cases hso
     | false => exact ⟨rfl, rfl⟩
   have hl2 := acc_split hk5 hg0 hg1 hmay.1 hmay.2
   rw [hso] at hl2
   injection hl2 with hl2
   subst hl2
   obtain ⟨A1, C1, hA1, hA2⟩ := HRO_spl hi
   have hoi := hx.ok _ (List.getElem_mem hi)
   have hbi := hbd.oth x.hs[i].g (by rw [← hx.hs]; exact List.mem_map_of_mem (List.getElem_mem hi))
   refine w_memH (own' := (p5, Obj.cells fs[k].cells.toArray 28) :: (Bk x.ps [Value.slice (some ⟨gH, 0, none⟩) x.hs.length cpH, rowV x.R (stF (fs.take k)).ref.length] 144) :: (Bk gH csH 148) :: (rowO 28 x.R ++ (A1 ++ (rowO 9 x.hs[i].O ++ (rowO 150 x.hs[i].S ++ C1))))) (fun w1 h => h.to (by rw [hA1]; unfold hrO; rw [List.append_assoc (rowO 9 x.hs[i].O)])) ?_
   have hsz2 := hsz _ (List.getElem_mem hkl)
   refine rg_inv ([(p5, Obj.cells fs[k].cells.toArray 28), (Bk x.ps [Value.slice (some ⟨gH, 0, none⟩) x.hs.length cpH, rowV x.R (stF (fs.take k)).ref.length] 144), (Bk gH csH 148)]) 23 (.flt 0 (.flt 1 (.flt 2 (.flt 3 (.flt 4 (.flt 5 (.flt 6 (.flt 7 (.flt 8 (.flt 9 (.flt 10 (.flt 11 (.flt 12 (.flt 13 (.flt 14 (.flt 15 (.flt 16 (.flt 17 (.flt 18 (.gr 19 (.gr 20 (.flt 21 (.flt 22 .done)) .nil) .nil)))))))))))))))))))) ((((List.nil_sublist _).cons_cons _).cons_cons _).cons_cons _) Zk Zk ?_
   refine j_val rfl rfl (v_move rfl) ?_
   refine j_val rfl rfl (v_nilCheck rfl) ?_
   refine j_val rfl rfl (v_fieldAddr (off' := 0) u144 rfl sz142 (by decide) rfl rfl) ?_
   refine j_val rfl rfl (v_load u142 rfl rfl (at_ownL (vs := [Value.slice (some ⟨gH, 0, none⟩) x.hs.length cpH, rowV x.R (stF (fs.take k)).ref.length]) (.tail _ (.head _)) rfl)) ?_
   refine j_val rfl rfl (v_move rfl) ?_
   refine j_val rfl rfl (v_move rfl) ?_
   refine j_val rfl rfl (v_nilCheck rfl) ?_
   refine j_val rfl rfl (v_fieldAddr (off' := 0) u144 rfl sz142 (by decide) rfl rfl) ?_
   refine j_val rfl rfl (v_load u142 rfl rfl (at_ownL (vs := [Value.slice (some ⟨gH, 0, none⟩) x.hs.length cpH, rowV x.R (stF (fs.take k)).ref.length]) (.tail _ (.head _)) rfl)) ?_
   refine j_val rfl rfl (v_move rfl) ?_
   refine j_val rfl rfl (v_indexAddr (j := i) u142 sz148 rfl rfl hi (Nat.zero_add _)) ?_
   refine j_val rfl rfl (v_fieldAddr u148 rfl sz146 (by decide) rfl rfl) ?_
   refine j_val rfl rfl (v_load u146 rfl rfl (at_ownL (vs := csH) (v := rowV x.hs[i].S x.hs[i].g.spl.length) (.tail _ (.tail _ (.head _))) (hclH 3 (by decide)))) ?_
   refine j_val rfl rfl (v_fieldAddr (off' := 5) u28 rfl sz9 (by decide) rfl rfl) ?_
   refine j_val rfl rfl (v_load u9 rfl rfl (at_ownL (vs := fs[k].cells) (.head _) rfl)) ?_
   refine j_callv rfl rfl Tryz.func22 Zk rfl (fun w1 hw1 => r_Fold fs[k].txt w1 hsz2) ?_
   refine j_val rfl rfl (v_fieldAddr (off' := 4) u28 rfl sz3 (by decide) rfl rfl) ?_
   refine j_val rfl rfl (v_load u3 rfl rfl (at_ownL (vs := fs[k].cells) (.head _) rfl)) ?_
   refine j_val (v := Value.agg (splC (foldS fs[k].txt, fs[k].to)).toArray) rfl rfl (v_buildL (cs := splC (foldS fs[k].txt, fs[k].to)) (places := [(0, 1), (1, 1)]) u150 zr150 Zk rfl rfl) ?_
   refine j_gr ?_ j_nil
   refine x_buildSliceL (cs := splC (foldS fs[k].txt, fs[k].to)) rfl rfl rfl u146 sz150 zr150 rfl rfl rfl ?_
   intro p151
   refine Ze ?_
   refine j_end (((((List.nil_sublist _).cons_cons _).cons_cons _).cons_cons _).cons _) ?_
   refine j_gr ?_ j_nil
   refine x_append (e := 150) ((Bk p151 (splC (foldS fs[k].txt, fs[k].to)) 150) :: (p5, Obj.cells fs[k].cells.toArray 28) :: (Bk x.ps [Value.slice (some ⟨gH, 0, none⟩) x.hs.length cpH, rowV x.R (stF (fs.take k)).ref.length] 144) :: (Bk gH csH 148) :: (rowO 28 x.R ++ (A1 ++ rowO 9 x.hs[i].O))) (l2 := C1) x.hs[i].S (len := x.hs[i].g.spl.length) (xs := x.hs[i].g.spl.flatMap splC) rfl rfl rfl rfl (by simp only [List.cons_append, List.append_assoc]) hoi.2 u146 ap150 rfl rfl (m := 1) (news := splC (foldS fs[k].txt, fs[k].to)) (fun i hi => at_ownL (vs := splC (foldS fs[k].txt, fs[k].to)) (.head _) (by rw [Nat.zero_add]; exact List.getElem?_eq_getElem hi)) rfl (by have := hbi.2; simp only [maxLen]; omega) (by have := hbi.2; omega) fun S' hS' => ?_
   refine x_mem (own' := (Bk p151 (splC (foldS fs[k].txt, fs[k].to)) 150) :: (p5, Obj.cells fs[k].cells.toArray 28) :: (Bk x.ps [Value.slice (some ⟨gH, 0, none⟩) x.hs.length cpH, rowV x.R (stF (fs.take k)).ref.length] 144) :: (Bk gH csH 148) :: (rowO 28 x.R ++ (A1 ++ (rowO 9 x.hs[i].O ++ (rowO 150 S' ++ C1))))) (fun _ h => h.to (by simp only [List.cons_append, List.append_assoc])) ?_
   refine Ze ?_
   refine j_end (((((List.nil_sublist _).cons_cons _).cons_cons _).cons_cons _).cons _) ?_
   refine j_val rfl rfl (v_indexAddr (j := i) u142 sz148 rfl rfl hi (Nat.zero_add _)) ?_
   refine j_val rfl rfl (v_fieldAddr u148 rfl sz146 (by decide) rfl rfl) ?_
   refine j_done ?_
   refine x_store (cs := csH) (off := i * 5 + 3) (e := 148) (l2 := rowO 28 x.R ++ (A1 ++ (rowO 9 x.hs[i].O ++ (rowO 150 S' ++ C1)))) [(Bk p151 (splC (foldS fs[k].txt, fs[k].to)) 150), (p5, Obj.cells fs[k].cells.toArray 28), (Bk x.ps [Value.slice (some ⟨gH, 0, none⟩) x.hs.length cpH, rowV x.R (stF (fs.take k)).ref.length] 144)] rfl rfl rfl rfl sz146 rfl (by obtain ⟨_, q2, _, q4, _⟩ := hrow; dsimp only at q2 q4; omega) ?_
   refine Ze (b_norm (b_norm (Zt (Zr ?_))))
   refine Xm ?_
   refine Xv rfl (v_addi rfl rfl rfl Zo) ?_
   refine Xa ?_
   refine Ze ?_
   have hr3 := row_fld (c := hrC) (m := 5) (fun _ => rfl) hrow hi (f := 3) (by decide) (v := rowV S' (x.hs[i].g.spl.length + 1)) (x := (⟨{ x.hs[i].g with spl := x.hs[i].g.spl ++ [(foldS fs[k].txt, fs[k].to)] }, x.hs[i].O, S'⟩ : HR)) (by show hrC _ = _; unfold hrC; rw [List.length_append]; rfl)
   exact l_norm (k + 1, { x with hs := x.hs.set i (⟨{ x.hs[i].g with spl := x.hs[i].g.spl ++ [(foldS fs[k].txt, fs[k].to)] }, x.hs[i].O, S'⟩ : HR), H := some (gH, csH.take (i * 5 + 3) ++ [rowV S' (x.hs[i].g.spl.length + 1)] ++ csH.drop (i * 5 + 3 + 1), cpH) }) ⟨hkl, by dsimp only; rw [take_st hkl, app_some hso, ← hgi]; exact hx.set hi hf (x' := (⟨{ x.hs[i].g with spl := x.hs[i].g.spl ++ [(foldS fs[k].txt, fs[k].to)] }, x.hs[i].O, S'⟩ : HR)) (by show x.hs[i].g.id = _; rw [hgi]; exact hgid) ⟨hoi.1, by dsimp only; rw [List.length_append, List.flatMap_append]; exact (by simpa using hS')⟩ hr3⟩ (by simp only; omega) Zu (fun w1 h => (h.less ((List.sublist_cons_self _ _).trans (List.sublist_cons_self _ _)) (fun _ h => h)).to (by dsimp only; rw [take_st hkl, app_some hso]; unfold SRO; dsimp only; rw [List.length_set, hA2]; unfold hrO; dsimp only; rw [List.append_assoc (rowO 9 x.hs[i].O)]; rfl))
  exfalso
  simp only [hb131, decide_eq_false_iff_not, decide_eq_true_eq] at hc130
  omega
 simp only [hb16, Qz, ne_eq] at hc16
 obtain rfl : k = fs.length := by omega
 refine w_exit ?_
 refine t_exit ?_
 refine t_exit ?_
 refine b_hit ?_
 refine Zt (Zs (Zr ?_))
 refine Xm ?_
 refine Xa ?_
 refine Ze (Zt (w_ret ?_))
 exact ret1 rfl rfl (fun w' hm' => ⟨x, rfl, by rw [List.take_of_length_le (Nat.le_refl _)] at hx; exact hx, by rw [List.take_of_length_le (Nat.le_refl _)] at hm'; exact hm'⟩)
open Go.RowKit Go.PK
set_option maxHeartbeats 1000000 in
theorem r_Encode {pf : Nat} {fs : List FD} {R : RowS} (w : World) (hp : w.cell? ⟨pf, 0, none⟩ = some (rowV R fs.length)) (hR : rowOK 6 R fs.length (fdsC fs)) (hW : ∀ q ∈ rowO 28 R, w.heap[q.1]? = some q.2) (hlen : fs.length ≤ 5000) (hs8 : ∀ q ∈ fs, q.txt.size ≤ 2000000) (hi8 : ∀ q ∈ fs, in64 q.ag ∧ in64 q.num ∧ in64 q.kind ∧ in64 q.hd ∧ in64 q.to) :
  Calls Tryz.prog 73 #[Pt pf] w fun e w' => e = .returned (.string (encF8 fs)) ∧ Later w w' := by
 refine enter (vs := [Pt pf]) Tryz.func73 rfl Tryz.ntmps73 rfl ?_
 refine Zs (Zr ?_)
 refine Xa ?_
 refine Ze (Zt (Zs (Zr ?_)))
 refine Xa ?_
 refine Ze (Zt (Zs (Zs (Zr ?_))))
 refine Xa ?_
 refine Ze (Zt (w_block ?_))
 refine w_loop (σ := Nat × RowS) (fun z => z.1 ≤ fs.length ∧ rowOK 1 z.2 (2 * z.1) ((encT8 (fs.take z.1)).map Value.string)) (fun z => [(0, Pt pf), (3, rowV z.2 (2 * z.1)), (4, Vi (z.1 : Nat))]) (fun z => rowO 9 z.2) (fun z => [(w, fun _ => True)]) (fun z => fs.length - z.1) ((0, none)) (⟨Nat.zero_le _, rowOK_nil⟩) (l_start Zu (fun _ h => h)) ?_
 rintro ⟨k, r⟩ ⟨hk, hr⟩
 refine w_state ([(0, Pt pf), (3, rowV r (2 * k)), (4, Vi (k : Nat))]) (rowO 9 r) ([(w, fun _ => True)]) ?_
 dsimp only at hk hr
 refine Zs (Zs (Zr ?_))
 refine Xm ?_
 refine Xm ?_
 refine Xn ?_
 refine Xf 0 rfl u48 rfl sz24 ?_
 refine Xl rfl u24 rfl (at_ro (.head _) trivial hp) ?_
 refine Xv (v := Vi (fs.length : Nat)) rfl (v_len_slice u24 rfl) ?_
 refine Xb rfl (v_lss rfl rfl) fun b12 hb12 => ?_
 refine Ze (Zt ?_)
 refine w_cond rfl (fun hc12 => ?_) fun hc12 => ?_
 ·simp only [hb12, Qz, ne_eq] at hc12
  have hkl : k < fs.length := by omega
  obtain ⟨g8, cs8, c8, hRg, hcp, hc8⟩ := fd_cell hR hkl
  have hcell8 : ∀ i9 v, (fs[k].cells)[i9]? = some v → w.cell? ⟨g8, k * 6 + i9, none⟩ = some v := fun i9 v hv => (by have hg := hW (g8, .cells cs8.toArray 28 (0, 0)) (by rw [hRg]; exact .head _); have hi : i9 < 6 := (List.getElem?_eq_some_iff.1 hv).1; rw [cell_of_row w g8 _ _ 28 (0, 0) hg, List.getElem?_toArray, hc8 i9 hi]; exact hv)
  refine w_skip (Zt (Zs (w_block (Zs (Zr ?_)))))
  refine Xm ?_
  refine Xn ?_
  refine Xf 0 rfl u48 rfl sz24 ?_
  refine Xl rfl u24 rfl (at_ro (.head _) trivial hp) ?_
  refine Xm ?_
  refine Xv rfl (v_indexAddr u24 sz28 (congrArg (fun R => some (rowV R fs.length)) hRg) rfl (hkl) rfl) ?_
  refine Xv rfl (v_loadN (vs := fs[k].cells) u28 rfl sz28 rfl (fun i hi => at_ro (.head _) trivial (by rw [Nat.zero_add]; exact hcell8 i _ (List.getElem?_eq_getElem hi)))) ?_
  refine x_alloc rfl rfl rfl zr28 ?_
  intro p5
  refine x_store0 [] rfl rfl rfl rfl sz28 rfl rfl ?_
  refine Ze (Zt ?_)
  refine rg_inv ([(p5, Obj.cells fs[k].cells.toArray 28)]) 16 (.flt 0 (.flt 1 (.flt 2 (.flt 3 (.flt 4 (.flt 5 (.flt 6 (.flt 7 (.flt 8 (.flt 9 (.flt 10 (.flt 13 (.flt 14 (.gr 11 (.gr 12 (.gr 15 .done .nil) .nil) .nil)))))))))))))) (by first | exact (List.nil_sublist _).cons_cons _ | exact ((List.nil_sublist _).cons_cons _).cons _ | exact (((List.nil_sublist _).cons_cons _).cons _).cons _) Zk Zk ?_
  refine j_val rfl rfl (v_move rfl) ?_
  refine j_val rfl rfl (v_fieldAddr (off' := 0) u28 rfl sz3 (by decide) rfl rfl) ?_
  refine j_val rfl rfl (v_load u3 rfl rfl (at_ownL (vs := fs[k].cells) (.head _) rfl)) ?_
  refine j_val rfl rfl (v_fieldAddr (off' := 1) u28 rfl sz3 (by decide) rfl rfl) ?_
  refine j_val rfl rfl (v_load u3 rfl rfl (at_ownL (vs := fs[k].cells) (.head _) rfl)) ?_
  refine j_val rfl rfl (v_fieldAddr (off' := 2) u28 rfl sz3 (by decide) rfl rfl) ?_
  refine j_val rfl rfl (v_load u3 rfl rfl (at_ownL (vs := fs[k].cells) (.head _) rfl)) ?_
  refine j_val rfl rfl (v_fieldAddr (off' := 3) u28 rfl sz3 (by decide) rfl rfl) ?_
  refine j_val rfl rfl (v_load u3 rfl rfl (at_ownL (vs := fs[k].cells) (.head _) rfl)) ?_
  refine j_val rfl rfl (v_fieldAddr (off' := 4) u28 rfl sz3 (by decide) rfl rfl) ?_
  refine j_val rfl rfl (v_load u3 rfl rfl (at_ownL (vs := fs[k].cells) (.head _) rfl)) ?_
  refine j_val rfl rfl (v_fieldAddr (off' := 5) u28 rfl sz9 (by decide) rfl rfl) ?_
  refine j_val rfl rfl (v_load u9 rfl rfl (at_ownL (vs := fs[k].cells) (.head _) rfl)) ?_
  refine j_gr ?_ j_nil
  refine x_buildSliceL (cs := [Vi fs[k].ag, Vi fs[k].num, Vi fs[k].kind, Vi fs[k].hd, Vi fs[k].to]) rfl rfl rfl u25 sz3 zr3 rfl rfl rfl ?_
  intro p33
  refine Ze ?_
  refine j_end (by first | exact (List.nil_sublist _).cons_cons _ | exact ((List.nil_sublist _).cons_cons _).cons _ | exact (((List.nil_sublist _).cons_cons _).cons _).cons _) ?_
  refine j_gr ?_ j_nil
  refine x_callv rfl rfl rfl Tryz.func102 Zk rfl (fun w1 hw1 => c_rInts w1 (rowI_rd (D := fun _ => True) (e := 3) (r := some (p33, [Vi fs[k].ag, Vi fs[k].num, Vi fs[k].kind, Vi fs[k].hd, Vi fs[k].to], 5)) (ds := i5F fs[k]) (n := 5) ⟨rfl, Nat.le_refl _, by simp only [maxLen]; omega, rfl, rfl⟩ rfl (fun d hd => by obtain ⟨q1, q2, q3, q4, q5⟩ := hi8 _ (List.getElem_mem hkl); simp only [i5F, List.mem_cons, List.mem_nil_iff, or_false] at hd; rcases hd with rfl | rfl | rfl | rfl | rfl <;> assumption) hw1 (fun q hq => by rw [List.mem_singleton.1 hq]; exact .head _) (fun _ _ => trivial)) (by show 5 ≤ 1000000; omega)) ?_
  refine Ze ?_
  refine j_end (by first | exact (List.nil_sublist _).cons_cons _ | exact ((List.nil_sublist _).cons_cons _).cons _ | exact (((List.nil_sublist _).cons_cons _).cons _).cons _) ?_
  refine j_gr ?_ j_nil
  refine x_buildSliceL (cs := [Value.string (⟨(intsG (i5F fs[k])).toArray⟩ : ByteArray), Value.string fs[k].txt]) rfl rfl rfl u38 sz9 zr9 rfl rfl rfl ?_
  intro p37
  refine Ze ?_
  refine j_end (by first | exact (List.nil_sublist _).cons_cons _ | exact ((List.nil_sublist _).cons_cons _).cons _ | exact (((List.nil_sublist _).cons_cons _).cons _).cons _) ?_
  refine j_done ?_
  refine x_append (e := 9) [(p37, _), (p33, _), (p5, _)] (l2 := []) r (len := 2 * k) (xs := (encT8 (fs.take k)).map Value.string) rfl rfl rfl rfl (by rw [List.append_nil]; rfl) hr u38 ap9 rfl rfl (m := 2) (news := [Value.string (⟨(intsG (i5F fs[k])).toArray⟩ : ByteArray), Value.string fs[k].txt]) (fun i hi => at_ownL (vs := [Value.string (⟨(intsG (i5F fs[k])).toArray⟩ : ByteArray), Value.string fs[k].txt]) (.head _) (by rw [Nat.zero_add]; exact List.getElem?_eq_getElem hi)) rfl Zx (by omega) fun r' hr' => ?_
  refine Xa ?_
  refine Ze (b_norm (Zt (Zr ?_)))
  refine Xm ?_
  refine Xv rfl (v_addi rfl rfl rfl Zo) ?_
  refine Xa ?_
  refine Ze ?_
  exact l_norm (k + 1, r') ⟨hkl, by dsimp only; rw [encT8_succ hkl, List.map_append]; exact hr'⟩ (by simp only; omega) Zu (fun _ h => by
   have h2 := h.less (List.sublist_append_left _ _) (fun _ h => h)
   exact h2.less (((List.sublist_cons_self _ _).trans (List.sublist_cons_self _ _)).trans (List.sublist_cons_self _ _)) (fun _ h => h))
 simp only [hb12, Qz, ne_eq] at hc12
 obtain rfl : k = fs.length := by omega
 rw [List.take_length] at hr
 refine w_exit ?_
 refine t_exit ?_
 refine t_exit ?_
 refine b_hit ?_
 refine Zt (Zs (Zr ?_))
 refine Xm ?_
 refine x_callv rfl rfl rfl Tryz.func103 Zk rfl (fun w1 hw1 => c_rPack (l := encT8 fs) w1 (rowS_rd (D := fun _ => True) (e := 9) hr (encT8_len fs).symm (fun s hs => by have := encT8_size hs8 hi8 s hs; unfold okS; omega) hw1 (fun q hq => hq) (fun _ _ => trivial)) (by rw [encT8_len]; omega) (encT8_size hs8 hi8)) ?_
 refine Xa ?_
 refine Ze (Zt (w_ret ?_))
 refine ret1 rfl rfl (fun w' hm => ⟨?_, hm.base (by simp)⟩)
 rfl
open Go.RowKit Go.PK
theorem r_Refused {pm : Nat} {M : RowS} {fs : List FD} (w : World) (hp : w.cell? ⟨pm, 0, none⟩ = some (rowV M fs.length)) (hR : rowOK 6 M fs.length (fdsC fs)) (hW : ∀ q ∈ rowO 28 M, w.heap[q.1]? = some q.2) (hok : FsOK fs) (hsz : ∀ q ∈ fs, q.txt.size ≤ 4000000) :
  Calls Tryz.prog 74 #[Pt pm] w fun e w' => ∃ R', e = .returned (rowV R' (stF fs).ref.length) ∧ rowOK 6 R' (stF fs).ref.length (fdsC (stF fs).ref) ∧ Mem w' (rowO 28 R') [(w, fun _ => True)] := by
 refine enter (vs := [Pt pm]) Tryz.func74 rfl Tryz.ntmps74 rfl ?_
 refine Zs (Zr ?_)
 refine Xa ?_
 refine Ze (Zt (Zs (Zr ?_)))
 refine Xm ?_
 refine x_own (τ := SR) (fun x => Pt x.ps) (fun x => SRK x (stF fs)) (fun x => SRO x (stF fs).ref.length) rfl rfl rfl Tryz.func65 Zk rfl (fun w1 hw1 => (r_State (pm := pm) w1 ((World.cell?_of_block (a := ⟨pm, 0, none⟩) ((hw1.base (w0 := w) (by simp)).block pm (cell_lt hp))).trans hp) hR (fun q hq => ((hw1.base (w0 := w) (by simp)).block _ (heap_lt (hW q hq))).trans (hW q hq)) hok hsz).mono fun e w2 ⟨x, h1, h2, h3⟩ => ⟨x, h1, h3.base (by simp), h2, hw1.join h3⟩) fun x hx => ?_
 refine Xn ?_
 refine Xf _ rfl u144 rfl sz24 ?_
 refine Xl rfl u24 rfl (at_ownL (vs := [rowV x.H x.hs.length, rowV x.R (stF fs).ref.length]) (.head _) rfl) ?_
 refine Xa ?_
 refine Ze (Zt (w_ret ?_))
 exact ret1 rfl rfl (fun w' hm' => ⟨x.R, rfl, hx.rf, hm'.less ((((List.sublist_append_left _ _).trans (List.sublist_append_right _ _))).cons _) (fun _ h => h)⟩)
open Go.RowKit Go.PK
theorem r_Name {pm : Nat} {M : RowS} {fs : List FD} (w : World) (hp : w.cell? ⟨pm, 0, none⟩ = some (rowV M fs.length)) (hR : rowOK 6 M fs.length (fdsC fs)) (hW : ∀ q ∈ rowO 28 M, w.heap[q.1]? = some q.2) (hok : FsOK fs) (hsz : ∀ q ∈ fs, q.txt.size ≤ 4000000) (h : Int) :
  Calls Tryz.prog 76 #[Pt pm, Vi h] w fun e w' => e = .returned (.tuple #[.string (nameF (stF fs).hs h).1, .bool (nameF (stF fs).hs h).2]) ∧ Later w w' := by
 refine enter (vs := [Pt pm, Vi h]) Tryz.func76 rfl Tryz.ntmps76 rfl ?_
 refine Zs (Zr ?_)
 refine Xa ?_
 refine Xa ?_
 refine Ze (Zt (Zs (Zr ?_)))
 refine Xm ?_
 refine x_own (τ := SR) (fun x => Pt x.ps) (fun x => SRK x (stF fs)) (fun x => SRO x (stF fs).ref.length) rfl rfl rfl Tryz.func65 Zk rfl (fun w1 hw1 => (r_State (pm := pm) w1 ((World.cell?_of_block (a := ⟨pm, 0, none⟩) ((hw1.base (w0 := w) (by simp)).block pm (cell_lt hp))).trans hp) hR (fun q hq => ((hw1.base (w0 := w) (by simp)).block _ (heap_lt (hW q hq))).trans (hW q hq)) hok hsz).mono fun e w2 ⟨x, h1, h2, h3⟩ => ⟨x, h1, h3.base (by simp), h2, hw1.join h3⟩) fun x hx => ?_
 have hlen8 : x.hs.length ≤ 100000 := by have q1 := (fs_bnd' hok).hs; rw [← hx.hs] at q1; unfold gsR at q1; rw [List.length_map] at q1; omega
 refine Xa ?_
 refine Ze (Zt (Zs (Zr ?_)))
 refine Xm ?_
 refine Xm ?_
 refine x_callv rfl rfl rfl Tryz.func96 Zk rfl (fun w1 hw1 => r_find w1 (hx.rd (L := []) (hw1.to (by rw [List.append_nil]))) hlen8 h) ?_
 refine Xa ?_
 refine Ze (Zt (Zs (Zs (Zr ?_))))
 refine Xm ?_
 refine Xb rfl (v_lss rfl rfl) fun b14 hb14 => ?_
 refine Ze (Zt ?_)
 refine w_cond rfl (fun hc14 => ?_) fun hc14 => ?_
 ·simp only [hb14, Qz, ne_eq] at hc14
  have hno := (fdR_lk x.hs h).2.1 hc14
  rw [hx.hs] at hno
  refine Zs (Zr ?_)
  refine Xa ?_
  refine Xa ?_
  refine Ze (Zt (w_ret (t_ret ?_)))
  have hfn : nameF (stF fs).hs h = (⟨#[]⟩, false) := by unfold nameF; rw [hno]
  rw [hfn]
  exact ret2 rfl rfl rfl (fun w' hm => ⟨rfl, hm.base (by simp)⟩)

 simp only [hb14, Qz, ne_eq] at hc14
 obtain ⟨i, hi, hf⟩ := fidx_lt (Int.not_lt.1 hc14)
 have hf : fdR x.hs h = (i : Nat) := hf
 have hlk := (fdR_lk x.hs h).1 i hi hf
 rw [hx.hs] at hlk
 obtain ⟨gH, csH, cpH, hRH, hcpH, hclH⟩ := row_at (c := hrC) (m := 5) (fun _ => rfl) (by decide) hx.row hi
 rw [hf]
 refine w_skip (Zt (Zs (Zr ?_)))
 refine Xm ?_
 refine Xn ?_
 refine Xf _ rfl u144 rfl sz142 ?_
 refine Xl rfl u142 rfl (at_ownL (vs := [rowV x.H x.hs.length, rowV x.R (stF fs).ref.length]) (.head _) rfl) ?_
 refine Xm ?_
 refine Xv rfl (v_indexAddr u142 sz148 (congrArg (fun R => some (rowV R x.hs.length)) hRH) rfl (hi) rfl) ?_
 refine Xf _ rfl u148 rfl sz9 ?_
 refine Xl rfl u9 rfl (at_ownL (vs := csH) (v := Value.string x.hs[i].g.name) (.tail _ (List.mem_append_left _ (by rw [hRH]; exact .head _))) (by show csH[0 + i * 5 + 1]? = _; rw [Nat.zero_add]; exact hclH 1 (by decide))) ?_
 refine Xa ?_
 refine Xa ?_
 refine Ze (Zt (w_ret ?_))
 have hfn : nameF (stF fs).hs h = (x.hs[i].g.name, true) := by unfold nameF; rw [hlk]
 rw [hfn]
 exact ret2 rfl rfl rfl (fun w' hm => ⟨rfl, hm.base (by simp)⟩)

end Go.Proofs.YtnflcekodobdlaaGreatDoor
