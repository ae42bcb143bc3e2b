/- Of the proofs of YtnflcekodobdlaaGreatDoor: Ca Cb Cc Da Db Dc Dd De Ea Df Eb Ec Ed Ee Ef Fa Eg Eh Fb Fc Fd Fe Gb Gc Gd Ge Gf Fh Fi Gg Xx Gh Gi Gj Gk Gl, put together. -/
import Derived.Test.YtnflcekodobdlaaGreatDoorU6
import Derived.RangeFuncBound
import Derived.Test.YtnflcekodobdlaaGreatDoorU2
import Derived.Test.YtnflcekodobdlaaGreatDoorU1
import Derived.Test.YtnflcekodobdlaaGreatDoorU3
import Derived.Test.YtnflcekodobdlaaGreatDoorU5
import Derived.Lay
import Derived.LaidSub
import Derived.Lib.LaidTab
import Derived.Stop.LaidErr
import Derived.Deep.DeepHandedRow
import Derived.SevenTiedAt
import Derived.Test.YtnflcekodobdlaaGreatDoorU4
set_option linter.unusedVariables false
set_option linter.unusedSimpArgs false
set_option maxRecDepth 100000

namespace Go.Proofs.YtnflcekodobdlaaGreatDoor
open Go.RowKit Go.PK
theorem c_groups (n : Nat) (w : World) :
  Calls Tryz.prog 125 #[.int .u64 (n : Nat)] w fun e w' => ∃ Bs, e = .returned (.func (.func 145) #[] #[Pt Bs]) ∧ Later w w' ∧ Mem w' [(Bk Bs [Value.int .u64 ((n : Nat) : Int)] 155)] [(w, fun _ => True)] := by
 refine enter (vs := [.int .u64 (n : Nat)]) Tryz.func125 rfl Tryz.ntmps125 rfl ?_
 refine Zs (Zr ?_)
 refine x_box rfl rfl rfl rfl ?_
 intro p1
 refine Xa ?_
 refine Ze (Zt (Zs (Zr ?_)))
 refine Xv rfl (v_func rfl) ?_
 refine Xa ?_
 refine Ze (Zt (w_ret ?_))
 exact ret1 rfl rfl (fun w' hm => ⟨p1, rfl, hm.base (by simp), hm⟩)
theorem retn {P : Program} {n : Nat} {l : List (Nat × Value)} {own : List (Nat × Obj)} {ro : List Snap} {R : Ending → World → Prop} {fn : Func} (hr : fn.results = #[]) (h : ∀ w', Mem w' own ro → R (.returned (.tuple #[])) w') : S (bodyPost P fn R .ret) n l own ro := ret0 hr h
set_option maxHeartbeats 1000000 in
theorem c_groups1 {w : World} {ro : List Snap} {L Bs : Nat} (X : RowS → Nat → List (Nat × Obj)) (n : Nat) (hn : n < 18446744073709551616) (hm : Mem w ((Bk Bs [Value.int .u64 ((n : Nat) : Int)] 155) :: X none 0) ro) (hY : ∀ (bs : List UInt8) (v : Nat) (r : RowS) (w1 : World), rowOK 1 r bs.length (byC bs) → bs.length ≤ 9 → v < 18446744073709551616 → Mem w1 ((Bk Bs [Value.int .u64 ((v / 128 : Nat) : Int)] 155) :: X r bs.length) ro → YieldAt Fence.wide (2 - 1) Tryz.prog L [Value.int .u8 (((UInt8.ofNat (v % 128)).toNat : Nat) : Int), Value.bool (decide (((v / 128 : Nat) : Int) > 0))].toArray w1 fun e w2 => e = .returned (.bool true) ∧ ∃ r', rowOK 1 r' (bs ++ [(if v / 128 > 0 then UInt8.ofNat (v % 128 + 128) else UInt8.ofNat (v % 128))]).length (byC (bs ++ [(if v / 128 > 0 then UInt8.ofNat (v % 128 + 128) else UInt8.ofNat (v % 128))])) ∧ Mem w2 ((Bk Bs [Value.int .u64 ((v / 128 : Nat) : Int)] 155) :: X r' (bs ++ [(if v / 128 > 0 then UInt8.ofNat (v % 128 + 128) else UInt8.ofNat (v % 128))]).length) ro) :
  Calls Tryz.prog 145 #[.func (.yield L) #[] #[], Pt Bs] w fun e w' => (∃ v, e = .returned v) ∧ ∃ r' v', rowOK 1 r' (numG n).length (byC (numG n)) ∧ Mem w' ((Bk Bs [Value.int .u64 ((v' : Nat) : Int)] 155) :: X r' (numG n).length) ro := by
 refine enter_in hm (vs := [.func (.yield L) #[] #[], Pt Bs]) Tryz.func145 rfl Tryz.ntmps145 rfl ?_
 refine w_block ?_
 refine w_loop (σ := List UInt8 × Nat × RowS) (fun x => x.1 ++ numG x.2.1 = numG n ∧ rowOK 1 x.2.2 x.1.length (byC x.1) ∧ x.2.1 < 18446744073709551616) (fun x => [(0, Value.func (.yield L) #[] #[]), (1, Pt Bs)]) (fun x => (Bk Bs [Value.int .u64 ((x.2.1 : Nat) : Int)] 155) :: X x.2.2 x.1.length) (fun x => ro) (fun x => x.2.1) (([], n, none)) (⟨rfl, rowOK_nil, hn⟩) (l_start Zu (fun _ h => h)) ?_
 rintro ⟨bs, v, r⟩ ⟨hbs, hr, hv⟩
 refine w_state ([(0, Value.func (.yield L) #[] #[]), (1, Pt Bs)]) ((Bk Bs [Value.int .u64 ((v : Nat) : Int)] 155) :: X r bs.length) (ro) ?_
 dsimp only at hbs hr hv
 have hln : bs.length ≤ 9 := by have h1 := congrArg List.length hbs; rw [List.length_append] at h1; have h2 := numG_ten hn; have h3 := numG_pos v; omega
 refine w_block (Zs (Zr ?_))
 refine Xl rfl u155 rfl (at_ownL (vs := [Value.int .u64 ((v : Nat) : Int)]) (.head _) rfl) ?_
 refine Xv (v := Value.int .u64 ((v % 128 : Nat) : Int)) rfl (v_remN (b := 128) rfl rfl (by decide)) ?_
 refine Xv rfl (v_convU8 u155 u5 rfl (by omega)) ?_
 refine Xa ?_
 refine Ze (Zt (Zs (Zr ?_)))
 refine Xl rfl u155 rfl (at_ownL (vs := [Value.int .u64 ((v : Nat) : Int)]) (.head _) rfl) ?_
 refine Xv (v := Value.int .u64 ((v / 128 : Nat) : Int)) rfl (v_shr rfl rfl (by decide) (by show (v : Int) / 128 = _; omega)) ?_
 refine x_store (cs := [Value.int .u64 ((v : Nat) : Int)]) (off := 0) (e := 155) (l2 := X r bs.length) [] rfl rfl rfl rfl sz155 rfl (by show 1 ≤ 1; decide) ?_
 refine Ze (Zt (Zs ?_))
 refine rg_yield 4 2 Zk rfl ?_
 refine Xm ?_
 refine Xm ?_
 refine Xl rfl u155 rfl (at_ownL (vs := [Value.int .u64 ((v / 128 : Nat) : Int)]) (.head _) rfl) ?_
 refine Xb rfl (v_gtr rfl rfl) fun b12 hb12 => ?_
 refine Ze ?_
 subst hb12
 refine s_yield (fun r' : RowS => rowOK 1 r' (bs ++ [(if v / 128 > 0 then UInt8.ofNat (v % 128 + 128) else UInt8.ofNat (v % 128))]).length (byC (bs ++ [(if v / 128 > 0 then UInt8.ofNat (v % 128 + 128) else UInt8.ofNat (v % 128))]))) (fun r' => (Bk Bs [Value.int .u64 ((v / 128 : Nat) : Int)] 155) :: X r' (bs ++ [(if v / 128 > 0 then UInt8.ofNat (v % 128 + 128) else UInt8.ofNat (v % 128))]).length) rfl rfl rfl rfl rfl (fun w1 hw1 => (hY bs v r w1 hr hln hv hw1).mono fun e w2 h => h) fun r' hr' => ?_
 refine s_rest Zk rfl ?_
 refine Xv (v := Value.bool false) rfl (v_not (b := true) rfl) ?_
 refine Xm ?_
 refine x_valg rfl rfl rfl rfl rfl (v_load u155 rfl rfl (at_ownL (vs := [Value.int .u64 ((v / 128 : Nat) : Int)]) (.head _) rfl)) ?_
 refine x_boolg rfl rfl rfl rfl rfl (v_eql rfl rfl) fun b17 hb17 => ?_
 refine Xb rfl (v_or (g := false) rfl rfl) fun b18 hb18 => ?_
 refine Ze (Zt ?_)
 refine w_cond rfl (fun hc18 => ?_) fun hc18 => ?_
 ·have hv0 : v / 128 = 0 := by rw [hb18, hb17] at hc18; simp at hc18; omega
  refine w_ret (b_ret (t_ret (b_ret ?_)))
  have hv1 : v < 128 := by omega
  rw [numG_small hv1] at hbs
  have e9 : (if v / 128 > 0 then UInt8.ofNat (v % 128 + 128) else UInt8.ofNat (v % 128)) = UInt8.ofNat v := by rw [if_neg (by omega), Nat.mod_eq_of_lt hv1]
  rw [e9, hbs] at hr'
  refine retn rfl (fun w' hm => ⟨⟨_, rfl⟩, r', v / 128, hr', ?_⟩)
  rw [e9, hbs] at hm
  exact hm
 have hv0 : ¬v / 128 = 0 := by rw [hb18, hb17] at hc18; simp at hc18; omega
 refine w_skip (b_norm ?_)
 have hv1 : ¬v < 128 := by omega
 rw [numG_big hv1] at hbs
 have e9 : (if v / 128 > 0 then UInt8.ofNat (v % 128 + 128) else UInt8.ofNat (v % 128)) = UInt8.ofNat (v % 128 + 128) := if_pos (by omega)
 exact l_norm (x := (bs, v, r)) (μ := fun q : List UInt8 × Nat × RowS => q.2.1) (bs ++ [UInt8.ofNat (v % 128 + 128)], v / 128, r') ⟨by dsimp only; rw [← hbs, List.append_assoc]; rfl, by rw [← e9]; exact hr', by dsimp only; omega⟩ (by simp only; omega) Zu (fun _ h => by rw [e9] at h; exact h)
set_option maxHeartbeats 1000000 in
theorem c_Num (n : Nat) (w : World) (hn : n < 18446744073709551616) :
  Calls Tryz.prog 99 #[.int .u64 (n : Nat)] w fun e w' => e = .returned (.string ⟨(numG n).toArray⟩) ∧ Later w w' := by
 have hT := numG_ten hn
 refine enterM (vs := [.int .u64 (n : Nat)]) 2 Tryz.func99 rfl Tryz.ntmps99 rfl ?_
 refine Zs (Zr ?_)
 refine Xa ?_
 refine Ze (Zt (Zs (Zr ?_)))
 refine x_alloc rfl rfl rfl zr22 ?_
 intro p3
 refine Ze (Zt (Zs (Zs (Zr ?_))))
 refine Xm ?_
 refine x_own (τ := Nat) (fun Bs => .func (.func 145) #[] #[Pt Bs]) (fun _ => True) (fun Bs => (Bk Bs [Value.int .u64 ((n : Nat) : Int)] 155) :: [(Bk p3 [rowV none 0] 22)]) rfl rfl rfl Tryz.func125 Zk rfl (fun w1 hw1 => (c_groups n w1).mono fun e w2 ⟨Bs, h1, h2, h3⟩ => ⟨Bs, h1, h2, trivial, (hw1.join2 h3).to (by simp; rfl)⟩) fun Bs _ => ?_
 refine Ze (Zt (w_block ?_))
 refine w_range (fun x : RowS × Nat => rowOK 1 x.1 (numG n).length (byC (numG n))) (fun x => (Bk Bs [Value.int .u64 ((x.2 : Nat) : Int)] 155) :: (Bk p3 [rowV x.1 (numG n).length] 22) :: rowO 5 x.1) rfl (enters_of Tryz.func145 Zk rfl) ?_ ?_
 ·intro L D fn tmps w1 hfh hm1
  refine (c_groups1 (Bs := Bs) (L := L) (fun r k => (L, .loop (recL .ready fn tmps #[8, 9] _ _ D)) :: (D, .deferred (some [])) :: (Bk p3 [rowV r k] 22) :: rowO 5 r) n hn (hm1.perm (((List.Perm.swap _ _ _).cons _).trans (List.Perm.swap _ _ _))) ?_).mono ?_
  ·intro bs v r w2 hr hln hv hm2
   refine yield_two (m := 1) (hm2.perm (List.Perm.swap _ _ _)) hfh rfl rfl ?_
   refine wi_seq ?_
   refine ri_text (lets_round _) Zk ?_
   refine Xa ?_
   refine Ze ?_
   refine ti_norm ?_
   refine ri_text (lets_round _) Zk ?_
   refine Xa ?_
   refine Ze ?_
   refine t_k ?_
   refine s_begin rfl ?_
   refine wi_block ?_
   refine wi_seq ?_
   refine wi_seq ?_
   refine ri_text (lets_round _) Zk ?_
   refine Xm ?_
   refine Ze ?_
   refine ti_norm ?_
   refine wi_cond rfl (fun hc => ?_) (fun hc => ?_)
   ·have hv0 := of_decide_eq_true hc
    refine ri_text (lets_round _) Zk ?_
    refine Xm ?_
    refine Xv (v := Value.int .u8 (((UInt8.ofNat (v % 128 + 128)).toNat : Nat) : Int)) rfl (by rw [← or128 (Nat.mod_lt v (by decide))]; exact v_orK rfl rfl) ?_
    refine Xa ?_
    refine Ze ?_
    refine ti_norm ?_
    refine ri_text (lets_round _) Zk ?_
    refine Xl rfl u22 rfl (at_ownL (vs := [rowV r bs.length]) Zh rfl) ?_
    refine Xm ?_
    refine x_buildSliceL (cs := byC [UInt8.ofNat (v % 128 + 128)]) rfl rfl rfl u22 sz5 zr5 rfl rfl rfl ?_
    intro p15
    refine x_append (e := 5) [(p15, _), (L, _), (Bs, _), (D, _), (p3, _)] (l2 := []) r (len := bs.length) (xs := byC bs) rfl rfl rfl rfl (by simp only [List.append_nil]; rfl) hr u22 ap5 rfl rfl (m := 1) (news := byC [UInt8.ofNat (v % 128 + 128)]) (fun i hi => at_ownL (vs := byC [UInt8.ofNat (v % 128 + 128)]) (.head _) (by rw [Nat.zero_add]; exact List.getElem?_eq_getElem hi)) rfl Zx (by omega) fun r' hr' => ?_
    rw [List.append_nil]
    refine x_store (cs := [rowV r bs.length]) (off := 0) (e := 22) (l2 := rowO 5 r') [(p15, _), (L, _), (Bs, _), (D, _)] rfl rfl rfl rfl sz22 rfl (by show 1 ≤ 1; decide) ?_
    refine x_mem (fun _ h => h.less (List.sublist_cons_self _ _) (fun _ h => h)) ?_
    refine Ze (b_norm ?_)
    refine s_round (fun w' hm => ⟨rfl, r', ?_, ?_⟩)
    ·rw [(if_pos (show v / 128 > 0 by omega) : (if v / 128 > 0 then UInt8.ofNat (v % 128 + 128) else UInt8.ofNat (v % 128)) = _), byC_app, List.length_append]; exact hr'
    rw [(if_pos (show v / 128 > 0 by omega) : (if v / 128 > 0 then UInt8.ofNat (v % 128 + 128) else UInt8.ofNat (v % 128)) = _), List.length_append]; exact hm.perm (List.Perm.swap _ _ _)
   have hv0 := of_decide_eq_false hc
   refine wi_skip ?_
   refine ti_norm ?_
   refine ri_text (lets_round _) Zk ?_
   refine Xl rfl u22 rfl (at_ownL (vs := [rowV r bs.length]) Zh rfl) ?_
   refine Xm ?_
   refine x_buildSliceL (cs := byC [UInt8.ofNat (v % 128)]) rfl rfl rfl u22 sz5 zr5 rfl rfl rfl ?_
   intro p15
   refine x_append (e := 5) [(p15, _), (L, _), (Bs, _), (D, _), (p3, _)] (l2 := []) r (len := bs.length) (xs := byC bs) rfl rfl rfl rfl (by simp only [List.append_nil]; rfl) hr u22 ap5 rfl rfl (m := 1) (news := byC [UInt8.ofNat (v % 128)]) (fun i hi => at_ownL (vs := byC [UInt8.ofNat (v % 128)]) (.head _) (by rw [Nat.zero_add]; exact List.getElem?_eq_getElem hi)) rfl Zx (by omega) fun r' hr' => ?_
   rw [List.append_nil]
   refine x_store (cs := [rowV r bs.length]) (off := 0) (e := 22) (l2 := rowO 5 r') [(p15, _), (L, _), (Bs, _), (D, _)] rfl rfl rfl rfl sz22 rfl (by show 1 ≤ 1; decide) ?_
   refine x_mem (fun _ h => h.less (List.sublist_cons_self _ _) (fun _ h => h)) ?_
   refine Ze (b_norm ?_)
   refine s_round (fun w' hm => ⟨rfl, r', ?_, ?_⟩)
   ·rw [(if_neg (show ¬v / 128 > 0 by omega) : (if v / 128 > 0 then UInt8.ofNat (v % 128 + 128) else UInt8.ofNat (v % 128)) = _), byC_app, List.length_append]; exact hr'
   rw [(if_neg (show ¬v / 128 > 0 by omega) : (if v / 128 > 0 then UInt8.ofNat (v % 128 + 128) else UInt8.ofNat (v % 128)) = _), List.length_append]; exact hm.perm (List.Perm.swap _ _ _)
  rintro e w2 ⟨h1, r', v', h2, h3⟩
  exact ⟨h1, (r', v'), h2, h3.perm ((List.Perm.swap _ _ _).trans ((List.Perm.swap _ _ _).cons _))⟩
 rintro D ⟨r, v'⟩ hr
 dsimp only at hr ⊢
 refine sd_block ?_
 refine sd_then ?_
 refine sd_seq ?_
 refine sd_region ?_
 refine sdl_val rfl (v_load u22 rfl rfl (at_ownL (vs := [rowV r (numG n).length]) Zh rfl)) ?_
 refine sdl_val rfl (v_toStrR (E := 5) (numG n) u22 u5 u9 rfl hr rfl (fun q hq => .tail _ (.tail _ (.tail _ hq)))) ?_
 refine sdl_val rfl (v_assign rfl) ?_
 refine sdl_end ?_
 refine sd_then ?_
 refine sd_ret ?_
 exact ret1M rfl rfl (fun w' hm => ⟨rfl, hm.base (by simp)⟩)
open Go.RowKit Go.PK
theorem rd_in {D : Nat → Prop} {w : World} {A : Option Addr} {l c : Nat} {xs : List Int} (h : sliceRd tyI D w (.slice A l c) xs) : ∀ d ∈ xs, in64 d := fun d hd => by
 obtain ⟨j, hj, rfl⟩ := List.getElem_of_mem hd
 obtain ⟨_, _, _, _, _, h1⟩ := int_at h hj
 exact h1
theorem c_Sgn (n : Int) (w : World) (h : in64 n) :
  Calls Tryz.prog 100 #[Vi n] w fun e w' => e = .returned (.int .u64 (sgn n : Nat)) ∧ Later w w' := by
 refine enter (vs := [Vi n]) Tryz.func100 rfl Tryz.ntmps100 rfl ?_
 refine Zs (Zr ?_)
 refine Xa ?_
 refine Ze (Zt (Zs (Zr ?_)))
 refine Xm ?_
 refine Xv rfl (v_conv u3 u155 rfl) ?_
 refine Xv (v := Value.int .u64 (IntKind.u64.wrap (IntKind.u64.wrap n * 2))) rfl (v_shl rfl rfl (by decide) rfl) ?_
 refine Xm ?_
 refine Xv (v := Vi (n / 9223372036854775808)) rfl (v_shr rfl rfl (by decide) rfl) ?_
 refine Xv rfl (v_conv u3 u155 rfl) ?_
 refine Xv (v := Value.int .u64 (sgn n : Nat)) rfl (by rw [← xor_sgn h]; exact v_xorK rfl rfl) ?_
 refine Xa ?_
 refine Ze (Zt (w_ret ?_))
 refine ret1 rfl rfl (fun w' hm => ⟨?_, hm.base (by simp)⟩)
 rfl
theorem c_Ints {D : Nat → Prop} {v : Value} {l : List Int} (w : World) (h : sliceRd tyI D w v l) (hll : l.length ≤ 1000000) :
  Calls Tryz.prog 71 #[v] w fun e w' => e = .returned (.string ⟨(intsG l).toArray⟩) ∧ Later w w' := by
 obtain ⟨A0, c0, rfl, hlc, hmx, -⟩ := id h
 have hin : ∀ n ∈ l, -9223372036854775808 ≤ n ∧ n ≤ 9223372036854775807 := rd_in h
 refine enter (vs := [Value.slice A0 l.length c0]) Tryz.func71 rfl Tryz.ntmps71 rfl ?_
 refine Zs (Zr ?_)
 refine Xa ?_
 refine Ze (Zt (Zs (Zr ?_)))
 refine x_alloc rfl rfl rfl zr153 ?_
 intro p3
 refine Ze (Zt (Zs (Zr ?_)))
 refine Xm ?_
 refine Xv rfl (v_len_slice u25 rfl) ?_
 refine Xv rfl (v_convE (c := ((l.length : Nat) : Int)) u3 u155 rfl (u64_wrap (by omega))) ?_
 refine x_callv (v := Value.string ⟨(numG (l.length)).toArray⟩) rfl rfl rfl Tryz.func99 Zk rfl (fun w1 hw1 => c_Num _ w1 (by omega)) ?_
 refine x_turnf (τ := RowS) (v := .tuple #[Vi ((numG l.length).length : Nat), .nilIface]) (fun r' => rowOK 1 r' ([] ++ numG l.length).length (byC ([] ++ numG l.length))) (fun r' => (bld2 153 5 p3 (Pt p3) r' (([] ++ numG l.length).length)) ++ []) rfl rfl Tryz.func98 Zk rfl (fun w1 hw1 => by
  have h := c_WS (l2 := []) (bs := []) (r := none) (pp := (.pointer none)) w1 (hw1.to (by first | rfl | simp [bld2, rowO])) (p := p3) (.inl rfl) ⟨(numG l.length).toArray⟩ rowOK_nil (by have := numG_ten (n := l.length) (by omega); (try show (0 : Nat) ≤ 4000000000000); omega) (by rw [mk_size]; have := numG_ten (n := l.length) (by omega); (try show (0 : Nat) ≤ 4000000000000); omega)
  rw [bl_mk, mk_size] at h
  exact h.mono fun e w2 ⟨h1, r', h2, h3⟩ => ⟨h1, r', h2, h3⟩) ?_
 intro r10 hr10
 rw [List.nil_append] at hr10
 refine Ze (Zt (Zs (Zs (Zr ?_))))
 refine Xm ?_
 refine Xv rfl (v_len_slice u25 rfl) ?_
 refine Xm ?_
 refine Ze (Zt (w_block ?_))
 refine w_loop (σ := Nat × RowS) (fun x => x.1 ≤ l.length ∧ rowOK 1 x.2 (intsT l x.1).length (byC (intsT l x.1))) (fun x => [(3, Pt p3), (11, Value.slice A0 l.length c0), (12, Vi (l.length : Nat)), (13, Vi (x.1 : Nat))]) (fun x => (bld2 153 5 p3 (Pt p3) x.2 ((intsT l x.1).length)) ++ []) (fun x => [(w, fun _ => True)]) (fun x => l.length - x.1) ((0, r10)) (⟨Nat.zero_le _, by dsimp only; rw [intsT_zero]; exact hr10⟩) (l_start Zu (fun _ h => by rw [intsT_zero]; exact h)) ?_
 rintro ⟨k, r⟩ ⟨hk, hr⟩
 refine w_state ([(3, Pt p3), (11, Value.slice A0 l.length c0), (12, Vi (l.length : Nat)), (13, Vi (k : Nat))]) ((bld2 153 5 p3 (Pt p3) r ((intsT l k).length)) ++ []) ([(w, fun _ => True)]) ?_
 dsimp only at hk hr
 refine Zs (Zr ?_)
 refine Xb rfl (v_lss rfl rfl) fun b14 hb14 => ?_
 refine Ze (Zt (Zs ?_))
 refine w_cond rfl (fun hc14 => ?_) fun hc14 => ?_
 ·simp only [hb14, Qz, ne_eq] at hc14
  have hkl : k < l.length := by omega
  obtain ⟨b0, o0, hA0, _, hc0, hk9⟩ := int_at h hkl
  have hz := intsT_len (by omega) hin k (by omega)
  have hz2 := numG_ten (sgn_lt hk9)
  refine w_skip (Zt (Zs (w_block (Zs (Zr ?_)))))
  refine Xv rfl (v_indexAddr u25 sz3 (congrArg (fun A => some (Value.slice A l.length c0)) hA0) rfl Zo rfl) ?_
  refine Xl rfl u3 rfl (at_ro (.head _) trivial (by rw [Nat.mul_one]; exact hc0)) ?_
  refine Xa ?_
  refine Ze (Zt (Zr ?_))
  refine Xm ?_
  refine x_callv (v := Value.int .u64 ((sgn l[k] : Nat) : Int)) rfl rfl rfl Tryz.func100 Zk rfl (fun w1 hw1 => c_Sgn _ w1 hk9) ?_
  refine x_callv (v := Value.string ⟨(numG (sgn l[k])).toArray⟩) rfl rfl rfl Tryz.func99 Zk rfl (fun w1 hw1 => c_Num _ w1 (sgn_lt hk9)) ?_
  refine x_turnf (τ := RowS) (v := .tuple #[Vi ((numG (sgn l[k])).length : Nat), .nilIface]) (fun r' => rowOK 1 r' ((intsT l k) ++ numG (sgn l[k])).length (byC ((intsT l k) ++ numG (sgn l[k])))) (fun r' => (bld2 153 5 p3 (Pt p3) r' (((intsT l k) ++ numG (sgn l[k])).length)) ++ []) rfl rfl Tryz.func98 Zk rfl (fun w1 hw1 => by
   have h := c_WS (l2 := []) (bs := (intsT l k)) (r := r) (pp := (Pt p3)) w1 (hw1.to (by first | rfl | simp [bld2, rowO])) (p := p3) (.inr rfl) ⟨(numG (sgn l[k])).toArray⟩ hr (by omega) (by rw [mk_size]; omega)
   rw [bl_mk, mk_size] at h
   exact h.mono fun e w2 ⟨h1, r', h2, h3⟩ => ⟨h1, r', h2, h3⟩) ?_
  intro r20 hr20
  refine Ze (b_norm (Zt (Zr ?_)))
  refine Xv rfl (v_addi rfl rfl rfl Zo) ?_
  refine Xm ?_
  refine Ze ?_
  exact l_norm (x := (k, r)) (μ := fun q : Nat × RowS => l.length - q.1) (k + 1, r20) ⟨by dsimp only; omega, by dsimp only; rw [intsT_succ hkl]; exact hr20⟩ (by simp only; omega) Zu (fun _ h => by rw [intsT_succ hkl]; exact h)
 simp only [hb14, Qz, ne_eq] at hc14
 refine w_exit ?_
 refine t_exit ?_
 refine t_exit ?_
 refine b_hit ?_
 refine Zt (Zs (Zr ?_))
 obtain rfl : k = l.length := by omega
 rw [intsT_all] at hr
 refine x_turnf (τ := Unit) (v := .string ⟨(intsG l).toArray⟩) (fun _ => True) (fun _ => []) rfl rfl Tryz.func101 Zk rfl (fun w1 hw1 => (c_BS (l2 := []) (bs := intsG l) w1 (hw1.to (by rw [intsT_all])) (p := p3) (.inr rfl) hr (B := w.heap.size) (fun q hq => by rw [List.mem_singleton.1 hq]; exact Nat.le_refl _) (fun q hq => by cases hq) (fun q hq => hw1.newer (by simp) (by rw [intsT_all]; exact List.mem_append_left _ hq)) (hw1.base (by simp)).size).mono fun e w2 h => ⟨h.1, (), trivial, h.2⟩) fun _ _ => ?_
 refine Xa ?_
 refine Ze (Zt (w_ret ?_))
 refine ret1 rfl rfl (fun w' hm => ⟨?_, hm.base (by simp)⟩)
 rfl
theorem c_Pack {D : Nat → Prop} {v : Value} {l : List ByteArray} (w : World) (h : sliceRd tyStr D w v l) (hll : l.length ≤ 1000000) (hsz : ∀ s ∈ l, s.size ≤ 2000000) :
  Calls Tryz.prog 72 #[v] w fun e w' => e = .returned (.string ⟨(packG l).toArray⟩) ∧ Later w w' := by
 obtain ⟨A0, c0, rfl, hlc, hmx, -⟩ := id h
 refine enter (vs := [Value.slice A0 l.length c0]) Tryz.func72 rfl Tryz.ntmps72 rfl ?_
 refine Zs (Zr ?_)
 refine Xa ?_
 refine Ze (Zt (Zs (Zr ?_)))
 refine x_alloc rfl rfl rfl zr153 ?_
 intro p3
 refine Ze (Zt (Zs (Zr ?_)))
 refine Xm ?_
 refine Xv rfl (v_len_slice u38 rfl) ?_
 refine Xv rfl (v_convE (c := ((l.length : Nat) : Int)) u3 u155 rfl (u64_wrap (by omega))) ?_
 refine x_callv (v := Value.string ⟨(numG (l.length)).toArray⟩) rfl rfl rfl Tryz.func99 Zk rfl (fun w1 hw1 => c_Num _ w1 (by omega)) ?_
 refine x_turnf (τ := RowS) (v := .tuple #[Vi ((numG l.length).length : Nat), .nilIface]) (fun r' => rowOK 1 r' ([] ++ numG l.length).length (byC ([] ++ numG l.length))) (fun r' => (bld2 153 5 p3 (Pt p3) r' (([] ++ numG l.length).length)) ++ []) rfl rfl Tryz.func98 Zk rfl (fun w1 hw1 => by
  have h := c_WS (l2 := []) (bs := []) (r := none) (pp := (.pointer none)) w1 (hw1.to (by first | rfl | simp [bld2, rowO])) (p := p3) (.inl rfl) ⟨(numG l.length).toArray⟩ rowOK_nil (by have := numG_ten (n := l.length) (by omega); (try show (0 : Nat) ≤ 4000000000000); omega) (by rw [mk_size]; have := numG_ten (n := l.length) (by omega); (try show (0 : Nat) ≤ 4000000000000); omega)
  rw [bl_mk, mk_size] at h
  exact h.mono fun e w2 ⟨h1, r', h2, h3⟩ => ⟨h1, r', h2, h3⟩) ?_
 intro r10 hr10
 rw [List.nil_append] at hr10
 refine Ze (Zt (Zs (Zs (Zr ?_))))
 refine Xm ?_
 refine Xv rfl (v_len_slice u38 rfl) ?_
 refine Xm ?_
 refine Ze (Zt (w_block ?_))
 refine w_loop (σ := Nat × RowS) (fun x => x.1 ≤ l.length ∧ rowOK 1 x.2 (packT l x.1).length (byC (packT l x.1))) (fun x => [(3, Pt p3), (11, Value.slice A0 l.length c0), (12, Vi (l.length : Nat)), (13, Vi (x.1 : Nat))]) (fun x => (bld2 153 5 p3 (Pt p3) x.2 ((packT l x.1).length)) ++ []) (fun x => [(w, fun _ => True)]) (fun x => l.length - x.1) ((0, r10)) (⟨Nat.zero_le _, by dsimp only; rw [packT_zero]; exact hr10⟩) (l_start Zu (fun _ h => by rw [packT_zero]; exact h)) ?_
 rintro ⟨k, r⟩ ⟨hk, hr⟩
 refine w_state ([(3, Pt p3), (11, Value.slice A0 l.length c0), (12, Vi (l.length : Nat)), (13, Vi (k : Nat))]) ((bld2 153 5 p3 (Pt p3) r ((packT l k).length)) ++ []) ([(w, fun _ => True)]) ?_
 dsimp only at hk hr
 refine Zs (Zr ?_)
 refine Xb rfl (v_lss rfl rfl) fun b14 hb14 => ?_
 refine Ze (Zt (Zs ?_))
 refine w_cond rfl (fun hc14 => ?_) fun hc14 => ?_
 ·simp only [hb14, Qz, ne_eq] at hc14
  have hkl : k < l.length := by omega
  obtain ⟨b0, o0, hA0, _, hc0, hk9⟩ := s_at h hkl
  have hz := packT_len (by omega) hsz (by decide) k (by omega)
  have hs9 := hsz _ (List.getElem_mem hkl)
  have hz2 := numG_ten (show l[k].size < 18446744073709551616 by omega)
  refine w_skip (Zt (Zs (w_block (Zs (Zr ?_)))))
  refine Xv rfl (v_indexAddr u38 sz9 (congrArg (fun A => some (Value.slice A l.length c0)) hA0) rfl Zo rfl) ?_
  refine Xl rfl u9 rfl (at_ro (.head _) trivial (by rw [Nat.mul_one]; exact hc0)) ?_
  refine Xa ?_
  refine Ze (Zt (Zr ?_))
  refine Xm ?_
  refine Xv rfl (v_len_str u9 rfl) ?_
  refine Xv rfl (v_convE (c := ((l[k].size : Nat) : Int)) u3 u155 rfl (u64_wrap (by omega))) ?_
  refine x_callv (v := Value.string ⟨(numG (l[k].size)).toArray⟩) rfl rfl rfl Tryz.func99 Zk rfl (fun w1 hw1 => c_Num _ w1 (by omega)) ?_
  refine Xm ?_
  refine Xv (v := Value.string ⟨(numG l[k].size ++ bl l[k]).toArray⟩) rfl (by rw [mk_app]; exact v_sadd rfl rfl (by rw [mk_size]; omega)) ?_
  refine x_turnf (τ := RowS) (v := .tuple #[Vi (((numG l[k].size ++ bl l[k])).length : Nat), .nilIface]) (fun r' => rowOK 1 r' ((packT l k) ++ (numG l[k].size ++ bl l[k])).length (byC ((packT l k) ++ (numG l[k].size ++ bl l[k])))) (fun r' => (bld2 153 5 p3 (Pt p3) r' (((packT l k) ++ (numG l[k].size ++ bl l[k])).length)) ++ []) rfl rfl Tryz.func98 Zk rfl (fun w1 hw1 => by
   have h := c_WS (l2 := []) (bs := (packT l k)) (r := r) (pp := (Pt p3)) w1 (hw1.to (by first | rfl | simp [bld2, rowO])) (p := p3) (.inr rfl) ⟨((numG l[k].size ++ bl l[k])).toArray⟩ hr (by (try simp only [List.length_append, bl_len]); omega) (by rw [mk_size]; (try simp only [List.length_append, bl_len]); omega)
   rw [bl_mk, mk_size] at h
   exact h.mono fun e w2 ⟨h1, r', h2, h3⟩ => ⟨h1, r', h2, h3⟩) ?_
  intro r23 hr23
  refine Ze (b_norm (Zt (Zr ?_)))
  refine Xv rfl (v_addi rfl rfl rfl Zo) ?_
  refine Xm ?_
  refine Ze ?_
  exact l_norm (x := (k, r)) (μ := fun q : Nat × RowS => l.length - q.1) (k + 1, r23) ⟨by dsimp only; omega, by dsimp only; rw [packT_succ hkl]; exact hr23⟩ (by simp only; omega) Zu (fun _ h => by rw [packT_succ hkl]; exact h)
 simp only [hb14, Qz, ne_eq] at hc14
 refine w_exit ?_
 refine t_exit ?_
 refine t_exit ?_
 refine b_hit ?_
 refine Zt (Zs (Zr ?_))
 obtain rfl : k = l.length := by omega
 rw [packT_all] at hr
 refine x_turnf (τ := Unit) (v := .string ⟨(packG l).toArray⟩) (fun _ => True) (fun _ => []) rfl rfl Tryz.func101 Zk rfl (fun w1 hw1 => (c_BS (l2 := []) (bs := packG l) w1 (hw1.to (by rw [packT_all])) (p := p3) (.inr rfl) hr (B := w.heap.size) (fun q hq => by rw [List.mem_singleton.1 hq]; exact Nat.le_refl _) (fun q hq => by cases hq) (fun q hq => hw1.newer (by simp) (by rw [packT_all]; exact List.mem_append_left _ hq)) (hw1.base (by simp)).size).mono fun e w2 h => ⟨h.1, (), trivial, h.2⟩) fun _ _ => ?_
 refine Xa ?_
 refine Ze (Zt (w_ret ?_))
 refine ret1 rfl rfl (fun w' hm => ⟨?_, hm.base (by simp)⟩)
 rfl
open Go.RowKit Go.PK
set_option maxHeartbeats 1000000 in
theorem k_Encode {pf : Nat} {fs : List FD} {R : RowS} (w : World) (hp : w.cell? ⟨pf, 0, none⟩ = some (rowV R fs.length)) (hR : rowOK 6 R fs.length (fdsC fs)) (hW : ∀ q ∈ rowO 28 R, w.heap[q.1]? = some q.2) (hlen : fs.length ≤ 5000) (hs8 : ∀ q ∈ fs, q.txt.size ≤ 2000000) (hi8 : ∀ q ∈ fs, in64 q.ag ∧ in64 q.num ∧ in64 q.kind ∧ in64 q.hd ∧ in64 q.to) :
  Calls Tryz.prog 35 #[Pt pf] w fun e w' => e = .returned (.string (encF8 fs)) ∧ Later w w' := by
 refine enter (vs := [Pt pf]) Tryz.func35 rfl Tryz.ntmps35 rfl ?_
 refine Zs (Zr ?_)
 refine Xa ?_
 refine Ze (Zt (Zs (Zs (Zr ?_))))
 refine Xm ?_
 refine Xb rfl (v_pnil (o := some ⟨pf, 0, none⟩) u29 rfl rfl) fun b7 hb7 => ?_
 refine Ze (Zt ?_)
 refine w_cond rfl (fun hc7 => ?_) fun hc7 => ?_
 ·rw [hb7] at hc7; cases hc7
 skip
 refine w_skip (Zt (Zs (Zr ?_)))
 refine Xa ?_
 refine Ze (Zt (Zs (Zs (Zr ?_))))
 refine Xm ?_
 refine Xn ?_
 refine Xf 0 rfl u78 rfl sz24 ?_
 refine Xl rfl u24 rfl (at_ro (.head _) trivial hp) ?_
 refine Xv (v := Vi (fs.length : Nat)) rfl (v_len_slice u24 rfl) ?_
 refine Xm ?_
 refine Ze (Zt (w_block ?_))
 refine w_loop (σ := Nat × RowS) (fun z => z.1 ≤ fs.length ∧ rowOK 1 z.2 (2 * z.1) ((encT8 (fs.take z.1)).map Value.string)) (fun z => [(3, rowV z.2 (2 * z.1)), (11, rowV R fs.length), (12, Vi (fs.length : Nat)), (13, Vi (z.1 : Nat))]) (fun z => rowO 9 z.2) (fun z => [(w, fun _ => True)]) (fun z => fs.length - z.1) ((0, none)) (⟨Nat.zero_le _, rowOK_nil⟩) (l_start Zu (fun _ h => h)) ?_
 rintro ⟨k, r⟩ ⟨hk, hr⟩
 refine w_state ([(3, rowV r (2 * k)), (11, rowV R fs.length), (12, Vi (fs.length : Nat)), (13, Vi (k : Nat))]) (rowO 9 r) ([(w, fun _ => True)]) ?_
 dsimp only at hk hr
 refine Zs (Zr ?_)
 refine Xb rfl (v_lss rfl rfl) fun b14 hb14 => ?_
 refine Ze (Zt (Zs ?_))
 refine w_cond rfl (fun hc14 => ?_) fun hc14 => ?_
 ·simp only [hb14, Qz, ne_eq] at hc14
  have hkl : k < fs.length := by omega
  obtain ⟨g8, cs8, c8, hRg, hcp, hc8⟩ := fd_cell hR hkl
  have hcell8 : ∀ i9 v, (fs[k].cells)[i9]? = some v → w.cell? ⟨g8, k * 6 + i9, none⟩ = some v := fun i9 v hv => (by have hg := hW (g8, .cells cs8.toArray 28 (0, 0)) (by rw [hRg]; exact .head _); have hi : i9 < 6 := (List.getElem?_eq_some_iff.1 hv).1; rw [cell_of_row w g8 _ _ 28 (0, 0) hg, List.getElem?_toArray, hc8 i9 hi]; exact hv)
  refine w_skip (Zt (Zs (w_block (Zs (Zr ?_)))))
  refine Xv rfl (v_indexAddr u24 sz28 (congrArg (fun R => some (rowV R fs.length)) hRg) rfl (hkl) rfl) ?_
  refine Xv rfl (v_loadN (vs := fs[k].cells) u28 rfl sz28 rfl (fun i hi => at_ro (.head _) trivial (by rw [Nat.zero_add]; exact hcell8 i _ (List.getElem?_eq_getElem hi)))) ?_
  refine x_alloc rfl rfl rfl zr28 ?_
  intro p5
  refine x_store0 [] rfl rfl rfl rfl sz28 rfl rfl ?_
  refine Ze (Zt ?_)
  refine rg_inv ([(p5, Obj.cells fs[k].cells.toArray 28)]) 16 (.flt 0 (.flt 1 (.flt 2 (.flt 3 (.flt 4 (.flt 5 (.flt 6 (.flt 7 (.flt 8 (.flt 9 (.flt 10 (.flt 13 (.flt 14 (.gr 11 (.gr 12 (.gr 15 .done .nil) .nil) .nil)))))))))))))) (by first | exact (List.nil_sublist _).cons_cons _ | exact ((List.nil_sublist _).cons_cons _).cons _ | exact (((List.nil_sublist _).cons_cons _).cons _).cons _) Zk Zk ?_
  refine j_val rfl rfl (v_move rfl) ?_
  refine j_val rfl rfl (v_fieldAddr (off' := 0) u28 rfl sz3 (by decide) rfl rfl) ?_
  refine j_val rfl rfl (v_load u3 rfl rfl (at_ownL (vs := fs[k].cells) (.head _) rfl)) ?_
  refine j_val rfl rfl (v_fieldAddr (off' := 1) u28 rfl sz3 (by decide) rfl rfl) ?_
  refine j_val rfl rfl (v_load u3 rfl rfl (at_ownL (vs := fs[k].cells) (.head _) rfl)) ?_
  refine j_val rfl rfl (v_fieldAddr (off' := 2) u28 rfl sz3 (by decide) rfl rfl) ?_
  refine j_val rfl rfl (v_load u3 rfl rfl (at_ownL (vs := fs[k].cells) (.head _) rfl)) ?_
  refine j_val rfl rfl (v_fieldAddr (off' := 3) u28 rfl sz3 (by decide) rfl rfl) ?_
  refine j_val rfl rfl (v_load u3 rfl rfl (at_ownL (vs := fs[k].cells) (.head _) rfl)) ?_
  refine j_val rfl rfl (v_fieldAddr (off' := 4) u28 rfl sz3 (by decide) rfl rfl) ?_
  refine j_val rfl rfl (v_load u3 rfl rfl (at_ownL (vs := fs[k].cells) (.head _) rfl)) ?_
  refine j_val rfl rfl (v_fieldAddr (off' := 5) u28 rfl sz9 (by decide) rfl rfl) ?_
  refine j_val rfl rfl (v_load u9 rfl rfl (at_ownL (vs := fs[k].cells) (.head _) rfl)) ?_
  refine j_gr ?_ j_nil
  refine x_buildSliceL (cs := [Vi fs[k].ag, Vi fs[k].num, Vi fs[k].kind, Vi fs[k].hd, Vi fs[k].to]) rfl rfl rfl u25 sz3 zr3 rfl rfl rfl ?_
  intro p28
  refine Ze ?_
  refine j_end (by first | exact (List.nil_sublist _).cons_cons _ | exact ((List.nil_sublist _).cons_cons _).cons _ | exact (((List.nil_sublist _).cons_cons _).cons _).cons _) ?_
  refine j_gr ?_ j_nil
  refine x_callv rfl rfl rfl Tryz.func71 Zk rfl (fun w1 hw1 => c_Ints w1 (rowI_rd (D := fun _ => True) (e := 3) (r := some (p28, [Vi fs[k].ag, Vi fs[k].num, Vi fs[k].kind, Vi fs[k].hd, Vi fs[k].to], 5)) (ds := i5F fs[k]) (n := 5) ⟨rfl, Nat.le_refl _, by simp only [maxLen]; omega, rfl, rfl⟩ rfl (fun d hd => by obtain ⟨q1, q2, q3, q4, q5⟩ := hi8 _ (List.getElem_mem hkl); simp only [i5F, List.mem_cons, List.mem_nil_iff, or_false] at hd; rcases hd with rfl | rfl | rfl | rfl | rfl <;> assumption) hw1 (fun q hq => by rw [List.mem_singleton.1 hq]; exact .head _) (fun _ _ => trivial)) (by show 5 ≤ 1000000; omega)) ?_
  refine Ze ?_
  refine j_end (by first | exact (List.nil_sublist _).cons_cons _ | exact ((List.nil_sublist _).cons_cons _).cons _ | exact (((List.nil_sublist _).cons_cons _).cons _).cons _) ?_
  refine j_gr ?_ j_nil
  refine x_buildSliceL (cs := [Value.string (⟨(intsG (i5F fs[k])).toArray⟩ : ByteArray), Value.string fs[k].txt]) rfl rfl rfl u38 sz9 zr9 rfl rfl rfl ?_
  intro p32
  refine Ze ?_
  refine j_end (by first | exact (List.nil_sublist _).cons_cons _ | exact ((List.nil_sublist _).cons_cons _).cons _ | exact (((List.nil_sublist _).cons_cons _).cons _).cons _) ?_
  refine j_done ?_
  refine x_append (e := 9) [(p32, _), (p28, _), (p5, _)] (l2 := []) r (len := 2 * k) (xs := (encT8 (fs.take k)).map Value.string) rfl rfl rfl rfl (by rw [List.append_nil]; rfl) hr u38 ap9 rfl rfl (m := 2) (news := [Value.string (⟨(intsG (i5F fs[k])).toArray⟩ : ByteArray), Value.string fs[k].txt]) (fun i hi => at_ownL (vs := [Value.string (⟨(intsG (i5F fs[k])).toArray⟩ : ByteArray), Value.string fs[k].txt]) (.head _) (by rw [Nat.zero_add]; exact List.getElem?_eq_getElem hi)) rfl Zx (by omega) fun r' hr' => ?_
  refine Xa ?_
  refine Ze (b_norm (Zt (Zr ?_)))
  refine Xv rfl (v_addi rfl rfl rfl Zo) ?_
  refine Xm ?_
  refine Ze ?_
  exact l_norm (k + 1, r') ⟨hkl, by dsimp only; rw [encT8_succ hkl, List.map_append]; exact hr'⟩ (by simp only; omega) Zu (fun _ h => by
   have h2 := h.less (List.sublist_append_left _ _) (fun _ h => h)
   exact h2.less (((List.sublist_cons_self _ _).trans (List.sublist_cons_self _ _)).trans (List.sublist_cons_self _ _)) (fun _ h => h))
 simp only [hb14, Qz, ne_eq] at hc14
 obtain rfl : k = fs.length := by omega
 rw [List.take_length] at hr
 refine w_exit ?_
 refine t_exit ?_
 refine t_exit ?_
 refine b_hit ?_
 refine Zt (Zs (Zr ?_))
 refine Xm ?_
 refine x_callv rfl rfl rfl Tryz.func72 Zk rfl (fun w1 hw1 => c_Pack (l := encT8 fs) w1 (rowS_rd (D := fun _ => True) (e := 9) hr (encT8_len fs).symm (fun s hs => by have := encT8_size hs8 hi8 s hs; unfold okS; omega) hw1 (fun q hq => hq) (fun _ _ => trivial)) (by rw [encT8_len]; omega) (encT8_size hs8 hi8)) ?_
 refine Xa ?_
 refine Ze (Zt (w_ret ?_))
 refine ret1 rfl rfl (fun w' hm => ⟨?_, hm.base (by simp)⟩)
 rfl
open Go.RowKit Go.PK
theorem e_app (a : ByteArray) : (⟨#[]⟩ : ByteArray) ++ a = a := by
 apply ByteArray.ext
 simp
theorem join_step (xs : List ByteArray) {k : Nat} (h : k < xs.length) : (joinS (xs.take k)).size ≤ (joinS (xs.take (k + 1))).size := by
 rw [List.take_succ_eq_append_getElem h, joinS_snoc]
 split
 ·rename_i h1; rw [h1]; exact Nat.zero_le _
 rw [ByteArray.size_append, ByteArray.size_append]; omega
theorem join_mono (xs : List ByteArray) : ∀ n k, k + n = xs.length → (joinS (xs.take k)).size ≤ (joinS xs).size
 | 0, k, h => by rw [List.take_of_length_le (by omega)]; exact Nat.le_refl _
 | n + 1, k, h => Nat.le_trans (join_step xs (by omega)) (join_mono xs n (k + 1) (by omega))
set_option maxHeartbeats 1000000 in
theorem r_Join {xs : List ByteArray} {r : RowS} (w : World) (hr : PK.rowR 9 1 (fun x : ByteArray => [Value.string x]) r xs w) (hl : xs.length ≤ 100000000) (hj : (joinS xs).size ≤ 100000000000) :
  Calls Tryz.prog 53 #[rowV r xs.length] w fun e w' => e = .returned (.string (joinS xs)) ∧ Later w w' := by
 refine enter (vs := [rowV r xs.length]) Tryz.func53 rfl Tryz.ntmps53 rfl ?_
 refine Zs (Zr ?_)
 refine Xa ?_
 refine Ze (Zt (Zs (Zr ?_)))
 refine Xa ?_
 refine Ze (Zt (Zs (Zs (Zr ?_))))
 refine Xa ?_
 refine Ze (Zt (w_block ?_))
 refine w_loop (σ := Nat) (fun k => k ≤ xs.length) (fun k => [(0, rowV r xs.length), (3, Value.string (joinS (xs.take k))), (4, Vi (k : Nat))]) (fun k => []) (fun k => [(w, fun _ => True)]) (fun k => xs.length - k) (0) (Nat.zero_le _) (l_start Zu (fun _ h => h)) ?_
 rintro k hk
 refine w_state ([(0, rowV r xs.length), (3, Value.string (joinS (xs.take k))), (4, Vi (k : Nat))]) ([]) ([(w, fun _ => True)]) ?_
 refine Zs (Zs (Zr ?_))
 refine Xm ?_
 refine Xm ?_
 refine Xv (v := Vi (xs.length : Nat)) rfl (v_len_slice u38 rfl) ?_
 refine Xb rfl (v_lss rfl rfl) fun b8 hb8 => ?_
 refine Ze (Zt ?_)
 refine w_cond rfl (fun hc8 => ?_) fun hc8 => ?_
 ·simp only [hb8, Qz, ne_eq] at hc8
  have hkl : k < xs.length := by omega
  obtain ⟨g, cs, cp, hRg, hcp, hcl⟩ := hr.cells (c := (fun x : ByteArray => [Value.string x])) (m := 1) (fun _ => rfl) (by decide) hkl
  have hst : joinS (xs.take (k + 1)) = if k = 0 then xs[k] else joinS (xs.take k) ++ spcB ++ xs[k] := by
   rw [List.take_succ_eq_append_getElem hkl, joinS_snoc]
   by_cases h : k = 0
   ·subst h; rfl
   rw [if_neg h, if_neg (fun e => h (by have := congrArg List.length e; simpa [List.length_take, Nat.min_eq_left (Nat.le_of_lt hkl)] using this))]
  have hz1 := join_mono xs (xs.length - k) k (by omega)
  have hz2 := join_mono xs (xs.length - (k + 1)) (k + 1) (by omega)
  have hz3 : (spcB : ByteArray).size = 1 := rfl
  refine w_skip (Zt (Zs (w_block (Zs (Zs (Zr ?_))))))
  refine Xm ?_
  refine Xb rfl (v_gtr rfl rfl) fun b12 hb12 => ?_
  refine Ze (Zt ?_)
  refine w_cond rfl (fun hc12 => ?_) fun hc12 => ?_
  ·simp only [hb12, Qz, ne_eq] at hc12
   rw [if_neg (show ¬k = 0 by omega)] at hst
   have hz4 := congrArg ByteArray.size hst
   rw [ByteArray.size_append, ByteArray.size_append] at hz4
   refine Zr ?_
   refine Xm ?_
   refine Xv (v := Value.string (joinS (xs.take k) ++ spcB)) rfl (v_sadd rfl rfl (by show (joinS (xs.take k)).size + spcB.size ≤ _; omega)) ?_
   refine Xa ?_
   refine Ze (Zt (Zr ?_))
   refine Xm ?_
   refine Xm ?_
   refine Xm ?_
   refine Xv rfl (v_indexAddr u38 sz9 (congrArg (fun R => some (rowV R xs.length)) hRg) rfl (hkl) rfl) ?_
   refine Xl rfl u9 rfl (at_ro (.head _) trivial (v := Value.string xs[k]) (by rw [Nat.zero_add]; exact hcl 0 (by decide))) ?_
   refine Xv rfl (v_sadd rfl rfl (by first | omega | (rw [ByteArray.size_append]; omega))) ?_
   refine Xa ?_
   refine Ze (b_norm (Zt (Zr ?_)))
   refine Xm ?_
   refine Xv rfl (v_addi rfl rfl rfl Zo) ?_
   refine Xa ?_
   refine Ze ?_
   exact l_norm (k + 1) hkl (by omega) (by rw [hst]; exact Zu) (fun _ h => h)
  simp only [hb12, Qz, ne_eq] at hc12
  have hk0 : k = 0 := by omega
  rw [if_pos hk0] at hst
  have hst2 : joinS (xs.take (k + 1)) = joinS (xs.take k) ++ xs[k] := by
   rw [hst]
   have e0 : joinS (xs.take k) = ⟨#[]⟩ := by subst hk0; rfl
   rw [e0, e_app]
  have hz4 := congrArg ByteArray.size hst2
  rw [ByteArray.size_append] at hz4
  refine w_skip (Zt (Zr ?_))
  refine Xm ?_
  refine Xm ?_
  refine Xm ?_
  refine Xv rfl (v_indexAddr u38 sz9 (congrArg (fun R => some (rowV R xs.length)) hRg) rfl (hkl) rfl) ?_
  refine Xl rfl u9 rfl (at_ro (.head _) trivial (v := Value.string xs[k]) (by rw [Nat.zero_add]; exact hcl 0 (by decide))) ?_
  refine Xv rfl (v_sadd rfl rfl (by first | omega | (rw [ByteArray.size_append]; omega))) ?_
  refine Xa ?_
  refine Ze (b_norm (Zt (Zr ?_)))
  refine Xm ?_
  refine Xv rfl (v_addi rfl rfl rfl Zo) ?_
  refine Xa ?_
  refine Ze ?_
  exact l_norm (k + 1) hkl (by omega) (by rw [hst2]; exact Zu) (fun _ h => h)
 simp only [hb8, Qz, ne_eq] at hc8
 obtain rfl : k = xs.length := by omega
 refine w_exit ?_
 refine t_exit ?_
 refine t_exit ?_
 refine b_hit ?_
 refine Zt (Zs (Zr ?_))
 refine Xm ?_
 refine Xa ?_
 refine Ze (Zt (w_ret ?_))
 refine ret1 rfl rfl (fun w' hm => ⟨?_, hm.base (by simp)⟩)
 rw [List.take_length]
open Go.RowKit Go.PK
open Go.RowKit Go.PK
open Go.RowKit Go.PK
structure HR where
  g : HG
  O : RowS
  S : RowS
def hrC (x : HR) : List Value := [Vi x.g.id, .string x.g.name, rowV x.O x.g.oth.length, rowV x.S x.g.spl.length, Vi x.g.into]
def hrOK (x : HR) : Prop := rowOK 1 x.O x.g.oth.length (x.g.oth.map Value.string) ∧ rowOK 2 x.S x.g.spl.length (x.g.spl.flatMap splC)
def gsR (hs : List HR) : List HG := hs.map (·.g)
structure RdR (w : World) (ps : Nat) (H : RowS) (hs : List HR) : Prop where
  st : w.cell? ⟨ps, 0, none⟩ = some (rowV H hs.length)
  row : PK.rowR 148 5 hrC H hs w
  rows : ∀ x ∈ hs, ∀ q ∈ rowO 9 x.O ++ rowO 150 x.S, w.heap[q.1]? = some q.2
  ok : ∀ x ∈ hs, hrOK x
theorem RdR.later {w w' : World} {ps : Nat} {H : RowS} {hs : List HR} (h : RdR w ps H hs) (hl : Later w w') : RdR w' ps H hs where
 st := (World.cell?_of_block (a := ⟨ps, 0, none⟩) (hl.block ps (cell_lt h.st))).trans h.st
 row := h.row.later hl
 rows := fun x hx q hq => (hl.block _ (heap_lt (h.rows x hx q hq))).trans (h.rows x hx q hq)
 ok := h.ok
def fdR (hs : List HR) (id : Int) : Int := fidx (fun x : HR => decide (x.g.id = id)) hs
theorem fdR_lk (hs : List HR) (id : Int) : (∀ i (h : i < hs.length), fdR hs id = (i : Nat) → lkH (gsR hs) id = some hs[i].g) ∧ (fdR hs id < 0 → lkH (gsR hs) id = none) ∧ (0 ≤ fdR hs id ↔ (lkH (gsR hs) id).isSome = true) := by
 have key : (lkH (gsR hs) id) = ((hs.find? (fun x : HR => decide (x.g.id = id))).map (·.g)) := by
  unfold lkH gsR
  rw [List.find?_map]; rfl
 unfold fdR fidx
 cases hq : hs.findIdx? (fun x : HR => decide (x.g.id = id)) with
 | none =>
  have h0 : hs.find? (fun x : HR => decide (x.g.id = id)) = none := List.find?_eq_none.2 fun x hx => by
   have := List.findIdx?_eq_none_iff.1 hq x hx
   rw [this]; exact Bool.false_ne_true
  rw [key, h0]
  exact ⟨fun i h he => by dsimp only at he; omega, fun _ => rfl, ⟨fun h => by dsimp only at h; omega, fun h => by cases h⟩⟩
 | some j =>
  obtain ⟨h1, h2, h3⟩ := List.findIdx?_eq_some_iff_getElem.1 hq
  have h0 : hs.find? (fun x : HR => decide (x.g.id = id)) = some hs[j] := List.find?_eq_some_iff_getElem.2 ⟨h2, j, h1, rfl, fun k hk => by simpa using h3 k hk⟩
  rw [key, h0]
  exact ⟨fun i h he => (by dsimp only at he; obtain rfl : j = i := (by omega); rfl), fun h => by dsimp only at h; omega, ⟨fun _ => rfl, fun _ => by dsimp only; omega⟩⟩
open Go.RowKit Go.PK
open Go.RowKit Go.PK
theorem r_mod (n m : Int) (w : World) (hn : in64 n) (hmm : 0 < m ∧ m ≤ 4000000000) :
  Calls Tryz.prog 54 #[Vi n, Vi m] w fun e w' => e = .returned (Vi (n % m)) ∧ Later w w' := by
 refine enter (vs := [Vi n, Vi m]) Tryz.func54 rfl Tryz.ntmps54 rfl ?_
 refine Zs (Zr ?_)
 refine Xa ?_
 refine Ze (Zt (Zs (Zr ?_)))
 refine Xm ?_
 refine Xm ?_
 refine Xv rfl (v_rem rfl rfl (by omega)) ?_
 refine Xm ?_
 refine Xv rfl (v_addi (c := n.tmod m + m) rfl rfl rfl (by have := tmod_bd n m hmm.1; omega)) ?_
 refine Xm ?_
 refine Xv rfl (v_rem rfl rfl (by omega)) ?_
 refine Xa ?_
 refine Ze (Zt (w_ret ?_))
 refine ret1 rfl rfl (fun w' hm => ⟨?_, hm.base (by simp)⟩)
 rw [tmod_mod n m hmm.1]
set_option maxHeartbeats 1000000 in
theorem r_Decimal (n0 : Int) (w : World) (h00 : 0 ≤ n0) (hn0 : in64 n0) :
  Calls Tryz.prog 15 #[Vi n0] w fun e w' => e = .returned (.string (itoaS n0)) ∧ Later w w' := by
 refine enter (vs := [Vi n0]) Tryz.func15 rfl Tryz.ntmps15 rfl ?_
 refine Zs (Zr ?_)
 refine Xa ?_
 refine Ze (Zt (Zs (Zr ?_)))
 refine Xa ?_
 refine Ze (Zt (Zs (w_block ?_)))
 refine w_loop (σ := Int × ByteArray) (fun z => 0 ≤ z.1 ∧ in64 z.1 ∧ itoaS n0 = itoaS z.1 ++ z.2) (fun z => [(0, Vi z.1), (3, Value.string z.2)]) (fun z => []) (fun z => [(w, fun _ => True)]) (fun z => z.1.toNat) ((n0, ⟨#[]⟩)) (⟨h00, hn0, by rw [show (⟨#[]⟩ : ByteArray) = ByteArray.empty from rfl, ByteArray.append_empty]⟩) (l_start Zu (fun _ h => h)) ?_
 rintro ⟨n, out⟩ ⟨h0, hn, hit⟩
 refine w_state ([(0, Vi n), (3, Value.string out)]) ([]) ([(w, fun _ => True)]) ?_
 dsimp only at h0 hn hit
 have hsz : out.size ≤ 21 := by
  have q1 := itoaS_size hn0
  rw [hit, ByteArray.size_append] at q1
  omega
 refine Zs (Zs (Zr ?_))
 refine Xm ?_
 refine Xb rfl (v_geq rfl rfl) fun b5 hb5 => ?_
 refine Ze (Zt ?_)
 refine w_cond rfl (fun hc5 => ?_) fun hc5 => ?_
 ·simp only [hb5, Qz, ne_eq] at hc5
  have h10 : 10 ≤ n := by omega
  refine w_skip (Zt (w_block (Zs (Zr ?_))))
  refine Xm ?_
  refine Xv (v := Vi (n % 10)) rfl (by rw [← Int.tmod_eq_emod_of_nonneg h0]; exact v_rem rfl rfl (by decide)) ?_
  refine Xv (v := Vi (48 + n % 10)) rfl (v_addi rfl rfl rfl (by omega)) ?_
  refine Xv (v := Value.int .u8 ((UInt8.ofNat (48 + (n % 10).toNat)).toNat : Nat)) rfl (by rw [← dig_c h0, Int.tmod_eq_emod_of_nonneg h0]; exact v_conv u3 u5 rfl) ?_
  refine x_buildSliceL (cs := [Value.int .u8 (UInt8.ofNat (48 + (n % 10).toNat)).toNat]) rfl rfl rfl u22 sz5 zr5 rfl rfl rfl ?_
  intro p10
  refine Xv rfl (v_toStr [UInt8.ofNat (48 + (n % 10).toNat)] u22 u5 u9 rfl rfl (fun j hj => at_ownL (vs := [Value.int .u8 (UInt8.ofNat (48 + (n % 10).toNat)).toNat]) (.head _) (by match j, hj with | 0, _ => rfl))) ?_
  refine Xm ?_
  refine Xv rfl (v_sadd rfl rfl (by rw [show (⟨#[UInt8.ofNat (48 + (n % 10).toNat)]⟩ : ByteArray).size = 1 from rfl]; omega)) ?_
  refine Xa ?_
  refine Ze (Zt (Zr ?_))
  refine Xm ?_
  refine Xv rfl (v_quoi (c := n / 10) rfl rfl (by decide) (Int.tdiv_eq_ediv_of_nonneg h0) (by unfold in64 at hn; omega)) ?_
  refine Xa ?_
  refine Ze (b_norm ?_)
  exact l_norm (n / 10, _) ⟨by dsimp only; omega, by unfold in64 at hn ⊢; dsimp only; omega, by dsimp only; rw [hit, itoaS_big h10, ByteArray.append_assoc]⟩ (by dsimp only; omega) Zu (fun _ h => h.less (List.sublist_cons_self _ _) (fun _ h => h))
 simp only [hb5, Qz, ne_eq] at hc5
 have h10 : n < 10 := by omega
 have hnm : n % 10 = n := Int.emod_eq_of_lt h0 h10
 refine w_exit ?_
 refine t_exit ?_
 refine t_exit ?_
 refine b_hit ?_
 refine Zt (Zs (Zr ?_))
 refine Xm ?_
 refine Xv (v := Vi (48 + n % 10)) rfl (v_addi rfl rfl (by omega) (by omega)) ?_
 refine Xv (v := Value.int .u8 ((UInt8.ofNat (48 + (n % 10).toNat)).toNat : Nat)) rfl (by rw [← dig_c h0, Int.tmod_eq_emod_of_nonneg h0]; exact v_conv u3 u5 rfl) ?_
 refine x_buildSliceL (cs := [Value.int .u8 (UInt8.ofNat (48 + (n % 10).toNat)).toNat]) rfl rfl rfl u22 sz5 zr5 rfl rfl rfl ?_
 intro p19
 refine Xv rfl (v_toStr [UInt8.ofNat (48 + (n % 10).toNat)] u22 u5 u9 rfl rfl (fun j hj => at_ownL (vs := [Value.int .u8 (UInt8.ofNat (48 + (n % 10).toNat)).toNat]) (.head _) (by match j, hj with | 0, _ => rfl))) ?_
 refine Xm ?_
 refine Xv rfl (v_sadd rfl rfl (by rw [show (⟨#[UInt8.ofNat (48 + (n % 10).toNat)]⟩ : ByteArray).size = 1 from rfl]; omega)) ?_
 refine Xa ?_
 refine Ze (Zt (w_ret ?_))
 refine ret1 rfl rfl (fun w' hm => ⟨?_, hm.base (by simp)⟩)
 rw [hit, itoaS_small h0 h10]
open Go.RowKit Go.PK
structure SR where
  ps : Nat
  H : RowS
  hs : List HR
  R : RowS
def hrO (x : HR) : List (Nat × Obj) := rowO 9 x.O ++ rowO 150 x.S
def HRO (hs : List HR) : List (Nat × Obj) := hs.flatMap hrO
def SRO (x : SR) (n : Nat) : List (Nat × Obj) := (Bk x.ps [rowV x.H x.hs.length, rowV x.R n] 144) :: (rowO 148 x.H ++ (rowO 28 x.R ++ HRO x.hs))
structure SRK (x : SR) (s : SG8) : Prop where
  hs : gsR x.hs = s.hs
  row : rowOK 5 x.H x.hs.length (x.hs.flatMap hrC)
  ok : ∀ h ∈ x.hs, hrOK h
  rf : rowOK 6 x.R s.ref.length (fdsC s.ref)
theorem SRK.zero (ps : Nat) : SRK ⟨ps, none, [], none⟩ (stF []) := ⟨rfl, rowOK_nil, fun h hh => (by cases hh), rowOK_nil⟩
theorem SRK.rd {x : SR} {s : SG8} (h : SRK x s) {w : World} {n : Nat} {L : List (Nat × Obj)} {ro : List Snap} (hm : Mem w (SRO x n ++ L) ro) : RdR w x.ps x.H x.hs where
 st := at_ownL (vs := [rowV x.H x.hs.length, rowV x.R n]) (.head _) rfl w hm
 row := hm.rowR h.row (fun q hq => List.mem_append_left _ (.tail _ (List.mem_append_left _ hq)))
 rows := fun y hy q hq => hm.own_at q (List.mem_append_left _ (.tail _ (List.mem_append_right _ (List.mem_append_right _ (List.mem_flatMap.2 ⟨y, hy, hq⟩)))))
 ok := h.ok
theorem setH_spl : ∀ {a : List HG} {y h : HG} {c : List HG}, (∀ z ∈ a, z.id ≠ h.id) → y.id = h.id → setH (a ++ y :: c) h = a ++ h :: c
 | [], y, h, c, _, hy => by
  show setH (y :: c) h = h :: c
  unfold setH
  rw [if_pos hy]
 | z :: a, y, h, c, ha, hy => by
  show setH (z :: (a ++ y :: c)) h = _
  unfold setH
  rw [if_neg (ha z (.head _)), setH_spl (fun q hq => ha q (.tail _ hq)) hy]; rfl
theorem setH_at {hs : List HR} {id : Int} {i : Nat} (hi : i < hs.length) (hf : fdR hs id = (i : Nat)) (x' : HR) (hid : x'.g.id = id) : setH (gsR hs) x'.g = gsR (hs.set i x') ∧ lkH (gsR hs) id = some hs[i].g := by
 refine ⟨?_, (fdR_lk hs id).1 i hi hf⟩
 unfold fdR fidx at hf
 cases hq : hs.findIdx? (fun x : HR => decide (x.g.id = id)) with
 | none => rw [hq] at hf; dsimp only at hf; omega
 | some j =>
  rw [hq] at hf
  dsimp only at hf
  have hj : j = i := by omega
  subst hj
  obtain ⟨h1, h2, h3⟩ := List.findIdx?_eq_some_iff_getElem.1 hq
  have e1 : gsR hs = gsR (hs.take j) ++ hs[j].g :: gsR (hs.drop (j + 1)) := by
   unfold gsR
   conv => lhs; rw [show hs = hs.take j ++ hs[j] :: hs.drop (j + 1) from by rw [List.getElem_cons_drop, List.take_append_drop]]
   rw [List.map_append, List.map_cons]
  have e2 : gsR (hs.set j x') = gsR (hs.take j) ++ x'.g :: gsR (hs.drop (j + 1)) := by
   unfold gsR
   rw [List.set_eq_take_append_cons_drop, if_pos hi, List.map_append, List.map_cons]
  rw [e1, e2]
  refine setH_spl (fun z hz => ?_) (by rw [hid]; exact of_decide_eq_true h2)
  obtain ⟨y, hy, rfl⟩ := List.mem_map.1 hz
  obtain ⟨m, hm, rfl⟩ := List.getElem_of_mem hy
  rw [List.length_take] at hm
  rw [List.getElem_take, hid]
  have := h3 m (by omega)
  simpa using this
theorem SRK.set {x : SR} {s : SG8} (h : SRK x s) {id : Int} {i : Nat} (hi : i < x.hs.length) (hf : fdR x.hs id = (i : Nat)) {x' : HR} (hid : x'.g.id = id) (hok : hrOK x') {H' : RowS} (hr : rowOK 5 H' (x.hs.set i x').length ((x.hs.set i x').flatMap hrC)) : SRK { x with hs := x.hs.set i x', H := H' } ⟨setH s.hs x'.g, s.ref⟩ where
 hs := by rw [← h.hs]; exact (setH_at hi hf x' hid).1.symm
 row := hr
 ok := fun y hy => (List.mem_or_eq_of_mem_set hy).elim (h.ok y) (fun e => by rw [e]; exact hok)
 rf := h.rf
open Go.RowKit Go.PK
def titL : List ByteArray := [⟨#[84, 111, 109, 32, 83, 97, 119, 121, 101, 114]⟩, ⟨#[79, 108, 100, 32, 115, 111, 110, 103, 115]⟩, ⟨#[65, 32, 98, 111, 111, 107, 32, 111, 102, 32, 109, 117, 115, 105, 99]⟩, ⟨#[]⟩, ⟨#[83, 79, 78, 71, 83, 32, 111, 102, 32, 84, 111, 109]⟩]
def titN (n : Int) : ByteArray := titL.getD (n % 5).toNat ⟨#[]⟩
theorem r_Title (n : Int) (w : World) (hn : in64 n) :
  Calls Tryz.prog 30 #[Vi n] w fun e w' => e = .returned (.string (titN n)) ∧ Later w w' := by
 have hj5 : (n % 5).toNat < 5 := by omega
 refine enter (vs := [Vi n]) Tryz.func30 rfl Tryz.ntmps30 rfl ?_
 refine Zs (Zr ?_)
 refine Xa ?_
 refine Ze (Zt (Zs (Zr ?_)))
 refine x_buildSliceL (cs := titL.map Value.string) rfl rfl rfl u38 sz9 zr9 rfl rfl rfl ?_
 intro p3
 refine Xm ?_
 refine x_callv (v := Vi (((n % 5).toNat : Nat) : Int)) rfl rfl rfl Tryz.func54 Zk rfl (fun w1 hw1 => by rw [Int.toNat_of_nonneg (Int.emod_nonneg n (by decide))]; exact r_mod n 5 w1 hn (by omega)) ?_
 refine Xv rfl (v_indexAddr u38 sz9 rfl rfl (hj5) rfl) ?_
 refine Xl rfl u9 rfl (at_ownL (vs := titL.map Value.string) (v := Value.string (titN n)) (.head _) (by rw [Nat.zero_add, Nat.mul_one, List.getElem?_map]; unfold titN; rw [List.getD_eq_getElem?_getD, List.getElem?_eq_getElem hj5]; rfl)) ?_
 refine Xa ?_
 refine Ze (Zt (w_ret ?_))
 refine ret1 rfl rfl (fun w' hm => ⟨?_, hm.base (by simp)⟩)
 rfl
theorem r_has (s : ByteArray) (c : UInt8) (w : World) (hs : s.size ≤ 4000000) [Decidable (∃ j, j < s.size ∧ byteAt s j = c)] :
  Calls Tryz.prog 70 #[.string s, .int .u8 (c.toNat : Nat)] w fun e w' => e = .returned (.bool (decide (∃ j, j < s.size ∧ byteAt s j = c))) ∧ Later w w' := by
 refine enter (vs := [.string s, .int .u8 (c.toNat : Nat)]) Tryz.func70 rfl Tryz.ntmps70 rfl ?_
 refine Zs (Zr ?_)
 refine Xa ?_
 refine Ze (Zt (Zs (Zs (Zr ?_))))
 refine Xa ?_
 refine Ze (Zt (w_block ?_))
 refine w_loop (σ := Nat) (fun k => k ≤ s.size ∧ ∀ j, j < k → ¬byteAt s j = c) (fun k => [(0, Value.string s), (1, Value.int .u8 (c.toNat : Nat)), (5, Vi (k : Nat))]) (fun k => []) (fun k => [(w, fun _ => True)]) (fun k => s.size - k) (0) (⟨Nat.zero_le _, by intros; omega⟩) (l_start Zu (fun _ h => h)) ?_
 rintro k ⟨hk, hno⟩
 refine w_state ([(0, Value.string s), (1, Value.int .u8 (c.toNat : Nat)), (5, Vi (k : Nat))]) ([]) ([(w, fun _ => True)]) ?_
 refine Zs (Zs (Zr ?_))
 refine Xm ?_
 refine Xm ?_
 refine Xv rfl (v_len_str u9 rfl) ?_
 refine Xb rfl (v_lss rfl rfl) fun b9 hb9 => ?_
 refine Ze (Zt ?_)
 refine w_cond rfl (fun hc9 => ?_) fun hc9 => ?_
 ·simp only [hb9, Qz, ne_eq] at hc9
  have hkl : k < s.size := by omega
  refine w_skip (Zt (Zs (w_block (Zs (Zr ?_)))))
  refine Xm ?_
  refine Xm ?_
  refine Xv rfl (v_index u9 rfl rfl (hkl)) ?_
  refine Xm ?_
  refine Xb rfl (v_eql rfl rfl) fun b16 hb16 => ?_
  refine Ze (Zt ?_)
  refine w_cond rfl (fun hc16 => ?_) fun hc16 => ?_
  ·simp only [hb16, Qz, ne_eq] at hc16
   have hb : byteAt s k = c := code_eq.1 hc16
   refine Zs (Zr ?_)
   refine Xa ?_
   refine Ze (Zt (w_ret (b_ret (t_ret (t_ret (b_ret (t_ret ?_)))))))
   refine ret1 rfl rfl (fun w' hm => ⟨?_, hm.base (by simp)⟩)
   rw [decide_eq_true (show ∃ j, j < s.size ∧ byteAt s j = c from ⟨k, hkl, hb⟩)]
  simp only [hb16, Qz, ne_eq] at hc16
  have hb : ¬byteAt s k = c := fun h => hc16 (code_eq.2 h)
  refine w_skip (b_norm (Zt (Zr ?_)))
  refine Xm ?_
  refine Xv rfl (v_addi rfl rfl rfl Zo) ?_
  refine Xa ?_
  refine Ze ?_
  exact l_norm (k + 1) ⟨hkl, fun j hjk => by rcases Nat.lt_succ_iff_lt_or_eq.1 hjk with h2 | rfl; (· exact hno j h2); exact hb⟩ (by omega) Zu (fun _ h => h)
 simp only [hb9, Qz, ne_eq] at hc9
 obtain rfl : k = s.size := by omega
 refine w_exit ?_
 refine t_exit ?_
 refine t_exit ?_
 refine b_hit ?_
 refine Zt (Zs (Zr ?_))
 refine Xa ?_
 refine Ze (Zt (w_ret ?_))
 refine ret1 rfl rfl (fun w' hm => ⟨?_, hm.base (by simp)⟩)
 rw [decide_eq_false (show ¬∃ j, j < s.size ∧ byteAt s j = c from fun ⟨j, h1, h2⟩ => hno j h1 h2)]
open Go.RowKit Go.PK
open Go.RowKit Go.PK
open Go.RowKit Go.PK
open Go.RowKit Go.PK
open Go.RowKit Go.PK
theorem c_ex (w : World) :
  Calls Tryz.prog 38 #[] w fun e w' => ∃ R', e = .returned (rowV R' 6) ∧ rowOK 6 R' 6 (fdsC exF) ∧ Mem w' (rowO 28 R') [(w, fun _ => True)] := by
 refine enter (vs := []) Tryz.func38 rfl Tryz.ntmps38 rfl ?_
 refine Zs (Zr ?_)
 refine Xa ?_
 refine Ze (Zt (Zs (Zr ?_)))
 refine Xv (v := Value.agg ((⟨1, 1, 1, 1, 0, T8a⟩ : FD)).cells.toArray) rfl (v_buildL (cs := ((⟨1, 1, 1, 1, 0, T8a⟩ : FD)).cells) (places := [(0, 1), (1, 1), (2, 1), (3, 1), (4, 1), (5, 1)]) u28 zr28 Zk rfl rfl) ?_
 refine Xv (v := Value.agg ((⟨1, 2, 1, 2, 0, T8b⟩ : FD)).cells.toArray) rfl (v_buildL (cs := ((⟨1, 2, 1, 2, 0, T8b⟩ : FD)).cells) (places := [(0, 1), (1, 1), (2, 1), (3, 1), (4, 1), (5, 1)]) u28 zr28 Zk rfl rfl) ?_
 refine Xv (v := Value.agg ((⟨1, 3, 3, 2, 0, T8c⟩ : FD)).cells.toArray) rfl (v_buildL (cs := ((⟨1, 3, 3, 2, 0, T8c⟩ : FD)).cells) (places := [(0, 1), (1, 1), (2, 1), (3, 1), (4, 1), (5, 1)]) u28 zr28 Zk rfl rfl) ?_
 refine Xv (v := Value.agg ((⟨1, 4, 4, 1, 2, ⟨#[]⟩⟩ : FD)).cells.toArray) rfl (v_buildL (cs := ((⟨1, 4, 4, 1, 2, ⟨#[]⟩⟩ : FD)).cells) (places := [(0, 1), (1, 1), (2, 1), (3, 1), (4, 1), (5, 1)]) u28 zr28 Zk rfl rfl) ?_
 refine Xv (v := Value.agg ((⟨1, 5, 1, 3, 0, T8d⟩ : FD)).cells.toArray) rfl (v_buildL (cs := ((⟨1, 5, 1, 3, 0, T8d⟩ : FD)).cells) (places := [(0, 1), (1, 1), (2, 1), (3, 1), (4, 1), (5, 1)]) u28 zr28 Zk rfl rfl) ?_
 refine Xv (v := Value.agg ((⟨1, 6, 5, 2, 3, T8e⟩ : FD)).cells.toArray) rfl (v_buildL (cs := ((⟨1, 6, 5, 2, 3, T8e⟩ : FD)).cells) (places := [(0, 1), (1, 1), (2, 1), (3, 1), (4, 1), (5, 1)]) u28 zr28 Zk rfl rfl) ?_
 refine x_buildSliceL (cs := fdsC exF) rfl rfl rfl u24 sz28 zr28 rfl rfl Zk ?_
 intro p7
 refine Xa ?_
 refine Ze (Zt (w_ret ?_))
 exact ret1 rfl rfl (fun w' hm => ⟨some (p7, fdsC exF, 6), rfl, ⟨rfl, (by show 6 ≤ 6; decide), (by show 6 ≤ maxLen; simp only [maxLen]; omega), rfl, rfl⟩, hm⟩)
theorem c_taken {R : RowS} {l : List FD} (w : World) (hR : PK.rowR 28 6 FD.cells R l w) (hlen : l.length ≤ 100000) (hin : ∀ f ∈ l, inFD f) (hL : LD w) :
  Calls Tryz.prog 24 #[rowV R l.length] w fun e w' => ∃ x : FM8, e = .returned (Pt x.pf) ∧ FOK x (takeAll l) ∧ Mem w' (FO x (takeAll l)) [(w, fun _ => True)] := by
 refine enter (vs := [rowV R l.length]) Tryz.func24 rfl Tryz.ntmps24 rfl ?_
 refine Zs (Zr ?_)
 refine Xa ?_
 refine Ze (Zt (Zs (Zr ?_)))
 refine x_own (τ := FM8) (fun x => Pt x.pf) (fun x => FOK x [] ∧ x.now = none) (fun x => FO x []) rfl rfl rfl Tryz.func16 Zk rfl (fun w1 hw1 => (k_New w1).mono fun e w2 ⟨x, h1, h2, h3, h4⟩ => ⟨x, h1, h4.base (by simp), ⟨h2, h3⟩, hw1.join h4⟩) ?_
 rintro x0 ⟨hx0, hn0⟩
 refine Xa ?_
 refine Ze (Zt (Zs (Zs (Zr ?_))))
 refine Xa ?_
 refine Ze (Zt (w_block ?_))
 refine w_loop (σ := Nat × FM8) (fun z => z.1 ≤ l.length ∧ FOK z.2 (takeAll (l.take z.1))) (fun z => [(0, rowV R l.length), (3, Pt z.2.pf), (4, Vi (z.1 : Nat))]) (fun z => FO z.2 (takeAll (l.take z.1)) ++ []) (fun z => [(w, fun _ => True)]) (fun z => l.length - z.1) ((0, x0)) (⟨Nat.zero_le _, hx0⟩) (l_start Zu (fun w1 h => h.to (by simp; rfl))) ?_
 rintro ⟨k, x⟩ ⟨hk, hx⟩
 refine w_state ([(0, rowV R l.length), (3, Pt x.pf), (4, Vi (k : Nat))]) (FO x (takeAll (l.take k)) ++ []) ([(w, fun _ => True)]) ?_
 dsimp only at hk hx
 refine Zs (Zs (Zr ?_))
 refine Xm ?_
 refine Xm ?_
 refine Xv (v := Vi (l.length : Nat)) rfl (v_len_slice u24 rfl) ?_
 refine Xb rfl (v_lss rfl rfl) fun b9 hb9 => ?_
 refine Ze (Zt ?_)
 refine w_cond rfl (fun hc9 => ?_) fun hc9 => ?_
 ·simp only [hb9, Qz, ne_eq] at hc9
  have hkl : k < l.length := by omega
  obtain ⟨gF, csF, cpF, hRg, hcpF, hclF⟩ := hR.cells (c := FD.cells) (m := 6) (fun _ => rfl) (by decide) hkl
  refine w_skip (Zt (Zs (w_block (Zr ?_))))
  refine Xm ?_
  refine Xm ?_
  refine Xm ?_
  refine Xv rfl (v_indexAddr u24 sz28 (congrArg (fun R => some (rowV R l.length)) hRg) rfl (hkl) rfl) ?_
  refine Xv rfl (v_loadN (vs := l[k].cells) u28 rfl sz28 rfl (fun i hi => at_ro (.head _) trivial (by rw [Nat.zero_add]; exact (hclF i hi).trans (List.getElem?_eq_getElem hi)))) ?_
  refine x_turn (τ := FM8) (fst := #[]) (cap := #[]) (v := Vi (takeF (takeAll (l.take k)) l[k]).1) (fun x' => FOK x' (takeF (takeAll (l.take k)) l[k]).2 ∧ x'.pf = (x).pf) (fun x' => FO x' (takeF (takeAll (l.take k)) l[k]).2 ++ []) rfl rfl rfl Tryz.func17 Zk rfl (fun w1 hw1 => by
   simp only [Array.empty_append, Array.append_empty]
   exact k_Take (L := []) hx (hin _ (List.getElem_mem hkl)) (.head _) hL (hw1.to (by simp))) ?_
  rintro x9 ⟨hx9, hp9⟩
  refine Ze (b_norm (Zt (Zr ?_)))
  refine Xm ?_
  refine Xv rfl (v_addi rfl rfl rfl Zo) ?_
  refine Xa ?_
  refine Ze ?_
  exact l_norm (k + 1, x9) ⟨hkl, by dsimp only; rw [List.take_succ_eq_append_getElem hkl, takeAll_snoc]; exact hx9⟩ (by simp only; omega) (by dsimp only; rw [hp9]; repeat (first | exact Sub.nil | refine Sub.cons rfl ?_)) (fun w1 h => h.to (by dsimp only; rw [List.take_succ_eq_append_getElem hkl, takeAll_snoc]))
 simp only [hb9, Qz, ne_eq] at hc9
 obtain rfl : k = l.length := by omega
 rw [List.take_of_length_le (Nat.le_refl _)] at hx
 refine w_exit ?_
 refine t_exit ?_
 refine t_exit ?_
 refine b_hit ?_
 refine Zt (Zs (Zr ?_))
 refine Xm ?_
 refine Xa ?_
 refine Ze (Zt (w_ret ?_))
 exact ret1 rfl rfl (fun w' hm => ⟨x, rfl, hx, by rw [List.take_of_length_le (Nat.le_refl _), List.append_nil] at hm; exact hm⟩)
open Go.RowKit Go.PK
def othA (o id : Int) (b : Bool) : Int := if b = true ∧ (o = 0 ∨ id < o) then id else o
open Go.RowKit Go.PK
open Go.RowKit Go.PK
theorem q_at {n : Nat} {D : Nat → Prop} {w : World} {A : Option Addr} {cp : Nat} {qs : List (List Int)} (h : sliceRd (tyArr (tyK .i64) n) D w (.slice A qs.length cp) qs) {k : Nat} (hk : k < qs.length) : ∃ b o, A = some ⟨b, o, none⟩ ∧ D b ∧ qs[k].length = n ∧ (∀ x ∈ qs[k], in64 x) ∧ ∀ j (hj : j < (qs[k].map (Value.int .i64)).length), w.cell? ⟨b, o + k * n + j, none⟩ = some (qs[k].map (Value.int .i64))[j] := by
 obtain ⟨A', c', hv, h1, h2, h3⟩ := h
 injection hv with e1 e2 e3
 subst e1 e3
 obtain ⟨b, o, e, hD, _, hc⟩ := h3 (by omega)
 obtain ⟨cs, k1, k2⟩ := hc k hk
 obtain ⟨rfl, k3, k4⟩ := arr_k k2
 rw [tyArr_size, show n * (tyK IntKind.i64).size = n from Nat.mul_one n] at k1
 exact ⟨b, o, e, hD, k3, k4, fun j hj => k1 j hj⟩
theorem four {l : List Int} (h : l.length = 4) : ∃ q0 q1 q2 q3, l = [q0, q1, q2, q3] := by
 match l, h with
 | [q0, q1, q2, q3], _ => exact ⟨q0, q1, q2, q3, rfl⟩
theorem fd_in {x : FD} (h : smF x) : inFD x := by
 have h1 := h.size
 obtain ⟨a1, a2, a3, a4, a5, a6, a7, a8, a9, a10, a11⟩ := h
 unfold inFD in64
 omega
set_option maxHeartbeats 2000000 in
theorem r_Feeds {A0 : Option Addr} {c0 : Nat} {qs : List (List Int)} (w : World) (hq : sliceRd (tyArr (tyK .i64) 4) (fun _ => True) w (.slice A0 qs.length c0) qs) :
  Calls Tryz.prog 23 #[.slice A0 qs.length c0] w fun e w' => ∃ R', e = .returned (rowV R' (feedsF qs).length) ∧ rowOK 6 R' (feedsF qs).length (fdsC (feedsF qs)) ∧ Mem w' (rowO 28 R') [(w, fun _ => True)] := by
 refine enter (vs := [.slice A0 qs.length c0]) Tryz.func23 rfl Tryz.ntmps23 rfl ?_
 refine Zs (Zr ?_)
 refine Xa ?_
 refine Ze (Zt (Zs (Zr ?_)))
 refine x_buildSliceL (cs := nameL.map Value.string) rfl rfl rfl u38 sz9 zr9 rfl rfl Zk ?_
 intro p9
 refine Xa ?_
 refine Ze (Zt (Zs (Zr ?_)))
 refine Xa ?_
 refine Ze (Zt (Zs (Zs (Zr ?_))))
 refine Xa ?_
 refine Ze (Zt (w_block ?_))
 refine w_loop (σ := Nat × RowS) (fun z => z.1 ≤ qs.length ∧ z.1 ≤ 60 ∧ rowOK 6 z.2 z.1 (fdsC ((feedsF qs).take z.1))) (fun z => [(0, Value.slice A0 qs.length c0), (3, Value.slice (some ⟨p9, 0, none⟩) 10 10), (4, rowV z.2 z.1), (5, Vi (z.1 : Nat))]) (fun z => (Bk p9 (nameL.map Value.string) 9) :: rowO 28 z.2) (fun z => [(w, fun _ => True)]) (fun z => qs.length - z.1) ((0, none)) (⟨Nat.zero_le _, Nat.zero_le _, rowOK_nil⟩) (l_start Zu (fun _ h => h)) ?_
 rintro ⟨k, R⟩ ⟨hk, hk6, hR⟩
 refine w_state ([(0, Value.slice A0 qs.length c0), (3, Value.slice (some ⟨p9, 0, none⟩) 10 10), (4, rowV R k), (5, Vi (k : Nat))]) ((Bk p9 (nameL.map Value.string) 9) :: rowO 28 R) ([(w, fun _ => True)]) ?_
 dsimp only at hk hk6 hR
 refine Zs (Zs (Zr ?_))
 refine Xm ?_
 refine Xm ?_
 refine Xv (v := Vi (qs.length : Nat)) rfl (v_len_slice u42 rfl) ?_
 refine Xb rfl (v_lss rfl rfl) fun b13 hb13 => ?_
 refine Xm ?_
 refine Xg ?_
 refine Xj rfl rfl rfl (fun hg0 => by subst hg0; (try simp only [Qy]); exact v_lss rfl rfl) fun b16 hb16 => ?_
 refine Xb rfl (v_and rfl rfl) fun b17 hb17 => ?_
 refine Ze (Zt ?_)
 refine w_cond rfl (fun hc17 => ?_) fun hc17 => ?_
 ·simp only [hb17, hb16, hb13, Qz, ne_eq] at hc17
  have hkl : k < qs.length := by omega
  have hk60 : k < 60 := by omega
  obtain ⟨b0, o0, hA0, _, hl4, hin4, hcq⟩ := q_at hq hkl
  obtain ⟨q0, q1, q2, q3, hqe⟩ := four hl4
  have hfq : feedQ k qs[k] = feedC k q0 q1 q2 q3 := by rw [hqe]; rfl
  rw [hqe] at hcq hin4
  have hq4 : in64 q0 ∧ in64 q1 ∧ in64 q2 ∧ in64 q3 := by simpa using hin4
  have hb9 : (q0 % 9).toNat < 9 := by omega
  have hb10 : (q2 % 10).toNat < 10 := by omega
  have hb4 : (q2.tdiv 8 % 4).toNat < 4 := by omega
  refine w_skip (Zt (Zs (w_block (Zs (Zr ?_)))))
  refine Xm ?_
  refine Xm ?_
  refine Xv rfl (v_indexAddr u42 sz103 (congrArg (fun A => some (Value.slice A qs.length c0)) hA0) rfl (hkl) rfl) ?_
  refine Xv rfl (v_loadN (vs := [Vi q0, Vi q1, Vi q2, Vi q3]) u103 rfl sz103 rfl (fun i hi => at_ro (.head _) trivial (hcq i hi))) ?_
  refine x_alloc rfl rfl rfl zr103 ?_
  intro p6
  refine x_store0 [] rfl rfl rfl rfl sz103 rfl rfl ?_
  refine Ze (Zt (Zs (Zr ?_)))
  refine x_buildSliceL (cs := kindL.map (Value.int .i64)) rfl rfl rfl u25 sz3 zr3 rfl rfl Zk ?_
  intro p24
  refine Xa ?_
  refine Ze (Zt (Zs ?_))
  refine rg_draw 29 [(true, 0), (true, 1), (true, 2), (true, 3), (true, 4), (true, 5), (true, 6), (true, 7), (true, 8), (true, 9), (true, 10), (true, 11), (true, 12), (true, 13), (true, 14), (true, 15), (true, 16), (true, 17), (true, 18), (true, 19), (true, 20), (true, 21), (true, 22), (true, 23), (true, 24), (true, 25), (true, 26), (true, 27), (false, 28)] Zk Zk ?_
  refine Xv rfl (v_indexArr (j := 3) (off' := 3) u103 sz3 rfl rfl Zo rfl) ?_
  refine Xl rfl u3 rfl (at_ownL (vs := [Vi q0, Vi q1, Vi q2, Vi q3]) (v := Vi q3) (.tail _ (.head _)) rfl) ?_
  refine x_callv (v := Vi (q3 % 3)) rfl rfl rfl Tryz.func54 Zk rfl (fun w1 hw1 => r_mod (q3) 3 w1 hq4.2.2.2 (by omega)) ?_
  refine Xv rfl (v_addi (c := (1 + q3 % 3)) rfl rfl (by omega) (by omega)) ?_
  refine Xm ?_
  refine Xv rfl (v_addi (c := (1 + (k : Int))) rfl rfl (by omega) (by omega)) ?_
  refine Xv rfl (v_indexArr (j := 3) (off' := 3) u103 sz3 rfl rfl Zo rfl) ?_
  refine Xl rfl u3 rfl (at_ownL (vs := [Vi q0, Vi q1, Vi q2, Vi q3]) (v := Vi q3) (.tail _ (.head _)) rfl) ?_
  refine Xv rfl (v_quoi (c := q3.tdiv 3) rfl rfl (by decide) rfl (tdiv_in hq4.2.2.2 (by decide))) ?_
  refine x_callv (v := Vi (q3.tdiv 3 % 4)) rfl rfl rfl Tryz.func54 Zk rfl (fun w1 hw1 => r_mod (q3.tdiv 3) 4 w1 (tdiv_in hq4.2.2.2 (by decide)) (by omega)) ?_
  refine Xv rfl (v_addi (c := (1 + (k : Int) + q3.tdiv 3 % 4)) rfl rfl (by omega) (by omega)) ?_
  refine Xm ?_
  refine Xv rfl (v_indexArr (j := 0) (off' := 0) u103 sz3 rfl rfl Zo rfl) ?_
  refine Xl rfl u3 rfl (at_ownL (vs := [Vi q0, Vi q1, Vi q2, Vi q3]) (v := Vi q0) (.tail _ (.head _)) rfl) ?_
  refine x_callv (v := Vi (((q0 % 9).toNat : Nat) : Int)) rfl rfl rfl Tryz.func54 Zk rfl (fun w1 hw1 => by rw [Int.toNat_of_nonneg (Int.emod_nonneg _ (by decide))]; exact r_mod (q0) 9 w1 hq4.1 (by omega)) ?_
  refine Xv rfl (v_indexAddr u25 sz3 rfl rfl (hb9) rfl) ?_
  refine Xl rfl u3 rfl (at_ownL (vs := kindL.map (Value.int .i64)) (v := Vi (kindL.getD (q0 % 9).toNat 0)) (.head _) (by rw [Nat.zero_add, Nat.mul_one, List.getElem?_map, List.getD_eq_getElem?_getD, List.getElem?_eq_getElem (show _ < kindL.length from hb9)]; rfl)) ?_
  refine Xv rfl (v_indexArr (j := 1) (off' := 1) u103 sz3 rfl rfl Zo rfl) ?_
  refine Xl rfl u3 rfl (at_ownL (vs := [Vi q0, Vi q1, Vi q2, Vi q3]) (v := Vi q1) (.tail _ (.head _)) rfl) ?_
  refine x_callv (v := Vi (q1 % 8)) rfl rfl rfl Tryz.func54 Zk rfl (fun w1 hw1 => r_mod (q1) 8 w1 hq4.2.1 (by omega)) ?_
  refine Xv rfl (v_addi (c := (1 + q1 % 8)) rfl rfl (by omega) (by omega)) ?_
  refine Xm ?_
  refine Xv rfl (v_indexArr (j := 2) (off' := 2) u103 sz3 rfl rfl Zo rfl) ?_
  refine Xl rfl u3 rfl (at_ownL (vs := [Vi q0, Vi q1, Vi q2, Vi q3]) (v := Vi q2) (.tail _ (.head _)) rfl) ?_
  refine x_callv (v := Vi (((q2 % 10).toNat : Nat) : Int)) rfl rfl rfl Tryz.func54 Zk rfl (fun w1 hw1 => by rw [Int.toNat_of_nonneg (Int.emod_nonneg _ (by decide))]; exact r_mod (q2) 10 w1 hq4.2.2.1 (by omega)) ?_
  refine Xv rfl (v_indexAddr u38 sz9 rfl rfl (hb10) rfl) ?_
  refine Xl rfl u9 rfl (at_ownL (vs := nameL.map Value.string) (v := Value.string (nameL.getD (q2 % 10).toNat ⟨#[]⟩)) (.tail _ (.tail _ (.head _))) (by rw [Nat.zero_add, Nat.mul_one, List.getElem?_map, List.getD_eq_getElem?_getD, List.getElem?_eq_getElem (show _ < nameL.length from hb10)]; rfl)) ?_
  refine Xv (v := Value.agg (feed0 k q0 q1 q2 q3).cells.toArray) rfl (v_buildL (cs := (feed0 k q0 q1 q2 q3).cells) (places := [(0, 1), (1, 1), (2, 1), (3, 1), (4, 1), (5, 1)]) u28 zr28 Zk rfl rfl) ?_
  refine x_alloc rfl rfl rfl zr28 ?_
  intro p8
  refine x_store0 [] rfl rfl rfl rfl sz28 rfl rfl ?_
  refine Ze (Zt ?_)
  refine w_seq_cut (σ := Unit) (fun z9 => True) (fun z9 => [(0, Value.slice A0 qs.length c0), (3, Value.slice (some ⟨p9, 0, none⟩) 10 10), (4, rowV R k), (5, Vi (k : Nat)), (6, Pt p6), (7, Value.slice (some ⟨p24, 0, none⟩) 9 9), (8, Pt p8)]) (fun z9 => (p8, Obj.cells (feedA k q0 q1 q2 q3).cells.toArray 28) :: (Bk p24 (kindL.map (Value.int .i64)) 3) :: (Bk p6 [Vi q0, Vi q1, Vi q2, Vi q3] 103) :: (Bk p9 (nameL.map Value.string) 9) :: rowO 28 R) (fun z9 => [(w, fun _ => True)]) ?_ ?_
  ·refine w_seq ?_
   refine Zr ?_
   refine Xf 2 rfl u28 rfl sz3 ?_
   refine Xl rfl u3 rfl (at_ownL (vs := (feed0 k q0 q1 q2 q3).cells) (.head _) rfl) ?_
   refine Xb rfl (v_eql rfl rfl) fun b55 hb55 => ?_
   refine Xm ?_
   refine Xi rfl rfl rfl (fun hg0 => by subst hg0; (try simp only [Qy]); exact v_fieldAddr (off' := 2) u28 rfl sz3 (by decide) rfl rfl) ?_
   refine Xi rfl rfl rfl (fun hg0 => by subst hg0; (try simp only [Qy]); exact v_load u3 rfl rfl (at_ownL (vs := (feed0 k q0 q1 q2 q3).cells) (.head _) rfl)) ?_
   refine Xj rfl rfl rfl (fun hg0 => by subst hg0; (try simp only [Qy]); exact v_eql rfl rfl) fun b59 hb59 => ?_
   refine Xb rfl (v_or rfl rfl) fun b60 hb60 => ?_
   refine Ze (Zt ?_)
   refine w_cond rfl (fun hc60 => ?_) fun hc60 => ?_
   ·simp only [hb60, hb59, hb55, Qz, ne_eq] at hc60
    refine Zs (Zr ?_)
    refine Xv rfl (v_indexArr (j := 2) (off' := 2) u103 sz3 rfl rfl Zo rfl) ?_
    refine Xl rfl u3 rfl (at_ownL (vs := [Vi q0, Vi q1, Vi q2, Vi q3]) (v := Vi q2) (.tail _ (.tail _ (.head _))) rfl) ?_
    refine x_callv (v := Vi (q2 % 8)) rfl rfl rfl Tryz.func54 Zk rfl (fun w1 hw1 => r_mod (q2) 8 w1 hq4.2.2.1 (by omega)) ?_
    refine Xv rfl (v_addi (c := (1 + q2 % 8)) rfl rfl (by omega) (by omega)) ?_
    refine Xf 4 rfl u28 rfl sz3 ?_
    refine x_store [] rfl rfl rfl rfl sz3 rfl (by show 4 + 1 ≤ 6; decide) ?_
    refine Ze (Zt (Zr ?_))
    refine Xf 5 rfl u28 rfl sz9 ?_
    refine x_store [] rfl rfl rfl rfl sz9 rfl (by show 5 + 1 ≤ 6; decide) ?_
    refine Ze ?_
    exact c_norm () trivial Zu (fun w1 h => h.to (by unfold feedA; rw [if_pos hc60]; rfl))
   simp only [hb60, hb59, hb55, Qz, ne_eq] at hc60
   refine w_skip ?_
   exact c_norm () trivial Zu (fun w1 h => h.to (by unfold feedA; rw [if_neg (fun h9 => h9.elim hc60.1 hc60.2)]; rfl))
  rintro _ _
  refine w_seq_cut (σ := Unit) (fun z9 => True) (fun z9 => [(0, Value.slice A0 qs.length c0), (3, Value.slice (some ⟨p9, 0, none⟩) 10 10), (4, rowV R k), (5, Vi (k : Nat)), (6, Pt p6), (7, Value.slice (some ⟨p24, 0, none⟩) 9 9), (8, Pt p8)]) (fun z9 => (p8, Obj.cells (feedC k q0 q1 q2 q3).cells.toArray 28) :: (Bk p24 (kindL.map (Value.int .i64)) 3) :: (Bk p6 [Vi q0, Vi q1, Vi q2, Vi q3] 103) :: (Bk p9 (nameL.map Value.string) 9) :: rowO 28 R) (fun z9 => [(w, fun _ => True)]) ?_ ?_
  ·refine w_seq ?_
   refine Zr ?_
   refine Xf 2 rfl u28 rfl sz3 ?_
   refine Xl rfl u3 rfl (at_ownL (vs := (feedA k q0 q1 q2 q3).cells) (.head _) rfl) ?_
   refine Xb rfl (v_eql rfl rfl) fun b69 hb69 => ?_
   refine Ze (Zt ?_)
   refine w_cond rfl (fun hc69 => ?_) fun hc69 => ?_
   ·simp only [hb69, Qz, ne_eq] at hc69
    refine Zr ?_
    refine x_buildSliceL (cs := splL.map Value.string) rfl rfl rfl u38 sz9 zr9 rfl rfl Zk ?_
    intro p70
    refine Xv rfl (v_indexArr (j := 2) (off' := 2) u103 sz3 rfl rfl Zo rfl) ?_
    refine Xl rfl u3 rfl (at_ownL (vs := [Vi q0, Vi q1, Vi q2, Vi q3]) (v := Vi q2) (.tail _ (.tail _ (.tail _ (.head _)))) rfl) ?_
    refine Xv rfl (v_quoi (c := q2.tdiv 8) rfl rfl (by decide) rfl (tdiv_in hq4.2.2.1 (by decide))) ?_
    refine x_callv (v := Vi (((q2.tdiv 8 % 4).toNat : Nat) : Int)) rfl rfl rfl Tryz.func54 Zk rfl (fun w1 hw1 => by rw [Int.toNat_of_nonneg (Int.emod_nonneg _ (by decide))]; exact r_mod (q2.tdiv 8) 4 w1 (tdiv_in hq4.2.2.1 (by decide)) (by omega)) ?_
    refine Xv rfl (v_indexAddr u38 sz9 rfl rfl (hb4) rfl) ?_
    refine Xl rfl u9 rfl (at_ownL (vs := splL.map Value.string) (v := Value.string (splL.getD (q2.tdiv 8 % 4).toNat ⟨#[]⟩)) (.head _) (by rw [Nat.zero_add, Nat.mul_one, List.getElem?_map, List.getD_eq_getElem?_getD, List.getElem?_eq_getElem (show _ < splL.length from hb4)]; rfl)) ?_
    refine Xf 5 rfl u28 rfl sz9 ?_
    refine x_store [(p70, _)] rfl rfl rfl rfl sz9 rfl (by show 5 + 1 ≤ 6; decide) ?_
    refine Ze ?_
    exact c_norm () trivial Zu (fun w1 h => (h.less (List.sublist_cons_self _ _) (fun _ h => h)).to (by unfold feedC; rw [if_pos hc69]; rfl))
   simp only [hb69, Qz, ne_eq] at hc69
   refine w_skip ?_
   exact c_norm () trivial Zu (fun w1 h => h.to (by unfold feedC; rw [if_neg hc69]))
  rintro _ _
  refine Zr ?_
  refine Xm ?_
  refine Xv rfl (v_load_blk u28 rfl rfl (.head _) (by exact sz28)) ?_
  refine x_buildSliceL (cs := (feedC k q0 q1 q2 q3).cells) rfl rfl rfl u24 sz28 zr28 rfl rfl rfl ?_
  intro p80
  refine x_append (e := 28) [(p80, Obj.cells (feedC k q0 q1 q2 q3).cells.toArray 28 (0, 0)), (p8, Obj.cells (feedC k q0 q1 q2 q3).cells.toArray 28), (Bk p24 (kindL.map (Value.int .i64)) 3), (Bk p6 [Vi q0, Vi q1, Vi q2, Vi q3] 103), (Bk p9 (nameL.map Value.string) 9)] (l2 := []) R (len := k) (xs := fdsC ((feedsF qs).take k)) rfl rfl rfl rfl (by simp) hR u24 ap28 rfl rfl (m := 1) (news := (feedC k q0 q1 q2 q3).cells) (fun i hi => at_ownL (vs := (feedC k q0 q1 q2 q3).cells) (.head _) (by rw [Nat.zero_add]; exact List.getElem?_eq_getElem hi)) rfl Zx (by omega) fun R' hR' => ?_
  refine Xa ?_
  refine Ze (b_norm (Zt (Zr ?_)))
  refine Xm ?_
  refine Xv rfl (v_addi rfl rfl rfl Zo) ?_
  refine Xa ?_
  refine Ze ?_
  exact l_norm (k + 1, R') ⟨hkl, hk60, by dsimp only; rw [feedsF_take hkl hk60, hfq, fdsC_app]; exact (by simpa [fdsC] using hR')⟩ (by simp only; omega) Zu (fun w1 h => (h.less ((((List.sublist_cons_self _ _).trans (List.sublist_cons_self _ _)).trans (List.sublist_cons_self _ _)).trans (List.sublist_cons_self _ _)) (fun _ h => h)).to (by simp))
 simp only [hb17, hb16, hb13, Qz, ne_eq] at hc17
 have hke : (feedsF qs).length = k := by rw [feedsF_len]; omega
 refine w_exit ?_
 refine t_exit ?_
 refine t_exit ?_
 refine b_hit ?_
 refine Zt (Zs (Zr ?_))
 refine Xm ?_
 refine Xa ?_
 refine Ze (Zt (w_ret ?_))
 exact ret1 rfl rfl (fun w' hm => ⟨R, by rw [hke], by rw [List.take_of_length_le (by omega)] at hR; rw [hke]; exact hR, hm.less (List.sublist_cons_self _ _) (fun _ h => h)⟩)
open Go.RowKit Go.PK
open Go.RowKit Go.PK
attribute [local irreducible] WX
theorem eqSB (w : World) (a c : Sb) : (Op.equalIn 10000 67 (.agg (sbC a).toArray) (.agg (sbC c).toArray)).run Tryz.prog w = .ok (decide (a = c)) w := by
 have hf : (Tryz.prog.fieldsOf 67).toList = [⟨ "Code", 5, 0, false, "", "", 0⟩, ⟨ "Text", 9, 1, false, "", "", 8⟩] := by kernel_rfl
 rw [run_equalIn_struct w 9999 67 _ _ Zk Zk, hf]
 simp only [Op.eqFields, part, sbC]
 obtain ⟨a1, a2⟩ := a
 obtain ⟨b1, b2⟩ := c
 simp [run_isAgg u5, run_isAgg u9, aggT, run_equalIn_int w 9998 5 .u8 .u8 _ _ u5, run_equalIn_string w 9998 9 _ _ u9, toList_eq, Sb.mk.injEq]
 have hu : ((a1.toNat : Int) = (b1.toNat : Int)) ↔ a1 = b1 := by rw [Int.ofNat_inj]; exact UInt8.toNat_inj
 by_cases h1 : a1 = b1 <;> by_cases h2 : a2 = b2 <;> simp [h1, h2, hu]
theorem ex_in : ∀ f ∈ exF, inFD f := by
 intro f hf
 simp only [exF, List.mem_cons, List.not_mem_nil, or_false] at hf
 rcases hf with rfl | rfl | rfl | rfl | rfl | rfl <;> (unfold inFD in64; decide +kernel)
theorem ex7_in : inFD ex7 := by unfold inFD in64; decide +kernel
theorem hs8_id : ∀ h ∈ (stF exF).hs, h.id < 1000000000000000000 := by
 rw [stF_of ex_st]
 intro h hh
 simp only [hs8, List.mem_cons, List.not_mem_nil, or_false] at hh
 rcases hh with rfl | rfl | rfl <;> (dsimp only; omega)
theorem exG_ok : ∀ f ∈ exG, smFl f ∧ okFl f ∧ ∀ s ∈ f.subs, s.code = 48 → s.text.size ≤ 18 := by
 intro f hf
 simp only [exG, List.mem_cons, List.not_mem_nil, or_false] at hf
 rcases hf with rfl | rfl <;> refine ⟨⟨by decide, by decide⟩, ⟨⟨?_, ?_, ?_⟩, ?_⟩, by decide⟩ <;> (try unfold okS) <;> (first | decide +kernel | (intro s hs; rw [List.mem_singleton.1 hs]; decide +kernel))
set_option maxHeartbeats 400000 in
theorem c_sanity (w : World) (hL : LD w) :
  Calls Tryz.prog 14 #[] w fun e w' => e = .returned (.bool (true)) ∧ Later w w' := by
 refine enter (vs := []) Tryz.func14 rfl Tryz.ntmps14 rfl ?_
 refine Zs (Zr ?_)
 refine Xa ?_
 refine Ze (Zt (Zs (Zr ?_)))
 refine x_own (τ := RowS) (fun R => rowV R 6) (fun R => rowOK 6 R exF.length (fdsC exF)) (fun R => rowO 28 R) rfl rfl rfl Tryz.func38 Zk rfl (fun w1 hw1 => (c_ex w1).mono fun e w2 ⟨R, h1, h2, h3⟩ => ⟨R, h1, h3.base (by simp), h2, hw1.join h3⟩) fun R0 hR0 => ?_
 refine x_own (τ := FM8) (fun x => Pt x.pf) (fun x => FOK x exF) (fun x => FO x exF) rfl rfl rfl Tryz.func24 Zk rfl (fun w1 hw1 => by
  have h := c_taken (l := exF) w1 (hw1.rowR hR0 (fun q hq => hq)) (by show 6 ≤ 100000; omega) ex_in (hL.later (hw1.base (by simp)))
  rw [ex_all] at h
  exact h.mono fun e w2 ⟨x, h1, h2, h3⟩ => ⟨x, h1, h3.base (by simp), h2, hw1.join h3⟩) ?_
 intro x0 hx0
 refine x_mem (fun _ h => h.to (List.append_nil _).symm) ?_
 refine Xa ?_
 refine Ze (Zt (Zs (Zr ?_)))
 refine Xm ?_
 refine x_turn (τ := FM8) (fst := #[]) (cap := #[]) (v := .tuple #[Vi 1, .bool true]) (fun y => FOK y exF ∧ y.pf = x0.pf) (fun y => FO y exF ++ []) rfl rfl rfl Tryz.func19 Zk rfl (fun w1 hw1 => by
  simp only [Array.empty_append, Array.append_empty]
  have h := k_Find (t := ⟨#[67, 76, 69, 77, 69, 78, 83, 44, 32, 83, 97, 109, 117, 101, 108]⟩) (L := []) hx0 (by decide +kernel) (.head _) hL (hw1.to (by simp))
  rw [ex_find'] at h
  exact h) ?_
 rintro x1 ⟨hx1, px1⟩
 refine Xm ?_
 refine Xe ?_
 refine Xb rfl (v_extract rfl rfl) fun b18 hb18 => ?_
 obtain rfl : b18 = true := hb18
 refine Xa ?_
 refine Xa ?_
 refine Ze (Zt (Zs (Zr ?_)))
 refine Xm ?_
 refine x_turn (τ := FM8) (fst := #[]) (cap := #[]) (v := .tuple #[Vi 2, .bool true]) (fun y => FOK y exF ∧ y.pf = x0.pf) (fun y => FO y exF ++ []) rfl rfl rfl Tryz.func18 Zk rfl (fun w1 hw1 => by
  simp only [Array.empty_append, Array.append_empty]
  have h := k_Resolve (h := 1) (t := ⟨#[84, 111, 109, 32, 83, 97, 119, 121, 101, 114]⟩) (L := []) hx1 (by unfold in64; omega) (by decide +kernel) (.head _) hL (hw1.to (by simp))
  rw [ex_r1'] at h
  rw [px1] at h
  exact h) ?_
 rintro x2 ⟨hx2, px2⟩
 refine Xm ?_
 refine Xe ?_
 refine Xb rfl (v_extract rfl rfl) fun b23 hb23 => ?_
 obtain rfl : b23 = true := hb23
 refine Xa ?_
 refine Xa ?_
 refine Ze (Zt (Zs (Zr ?_)))
 refine Xm ?_
 refine x_turn (τ := FM8) (fst := #[]) (cap := #[]) (v := .tuple #[Vi 3, .bool true]) (fun y => FOK y exF ∧ y.pf = x0.pf) (fun y => FO y exF ++ []) rfl rfl rfl Tryz.func18 Zk rfl (fun w1 hw1 => by
  simp only [Array.empty_append, Array.append_empty]
  have h := k_Resolve (h := 1) (t := ⟨#[79, 108, 100, 32, 115, 111, 110, 103, 115]⟩) (L := []) hx2 (by unfold in64; omega) (by decide +kernel) (.head _) hL (hw1.to (by simp))
  rw [ex_r2'] at h
  rw [px2] at h
  exact h) ?_
 rintro x3 ⟨hx3, px3⟩
 refine Xm ?_
 refine Xe ?_
 refine Xb rfl (v_extract rfl rfl) fun b28 hb28 => ?_
 obtain rfl : b28 = true := hb28
 refine Xa ?_
 refine Xa ?_
 refine Ze (Zt (Zs (Zr ?_)))
 refine Xm ?_
 refine Xv (v := Value.agg ((sbC ⟨97, ⟨#[116, 119, 97, 105, 110, 32, 109]⟩⟩)).toArray) rfl (v_buildL (cs := (sbC ⟨97, ⟨#[116, 119, 97, 105, 110, 32, 109]⟩⟩)) (places := [(0, 1), (1, 1)]) u67 zr67 Zk rfl rfl) ?_
 refine x_buildSliceL (cs := (sbC ⟨97, ⟨#[116, 119, 97, 105, 110, 32, 109]⟩⟩)) rfl rfl rfl u60 sz67 zr67 rfl rfl rfl ?_
 intro p31
 refine Xv (v := Value.agg ([Value.string ⟨#[55, 48, 48]⟩, .string ⟨#[49, 32]⟩, .string ⟨#[]⟩, Value.slice (some ⟨p31, 0, none⟩) 1 1]).toArray) rfl (v_buildL (cs := [Value.string ⟨#[55, 48, 48]⟩, .string ⟨#[49, 32]⟩, .string ⟨#[]⟩, Value.slice (some ⟨p31, 0, none⟩) 1 1]) (places := [(0, 1), (1, 1), (2, 1), (3, 1)]) u62 zr62 Zk rfl rfl) ?_
 refine Xv (v := Value.agg ((sbC ⟨97, ⟨#[84, 111, 109, 32, 83, 97, 119, 121, 101, 114]⟩⟩)).toArray) rfl (v_buildL (cs := (sbC ⟨97, ⟨#[84, 111, 109, 32, 83, 97, 119, 121, 101, 114]⟩⟩)) (places := [(0, 1), (1, 1)]) u67 zr67 Zk rfl rfl) ?_
 refine x_buildSliceL (cs := (sbC ⟨97, ⟨#[84, 111, 109, 32, 83, 97, 119, 121, 101, 114]⟩⟩)) rfl rfl rfl u60 sz67 zr67 rfl rfl rfl ?_
 intro p34
 refine Xv (v := Value.agg ([Value.string ⟨#[50, 52, 53]⟩, .string ⟨#[49, 48]⟩, .string ⟨#[]⟩, Value.slice (some ⟨p34, 0, none⟩) 1 1]).toArray) rfl (v_buildL (cs := [Value.string ⟨#[50, 52, 53]⟩, .string ⟨#[49, 48]⟩, .string ⟨#[]⟩, Value.slice (some ⟨p34, 0, none⟩) 1 1]) (places := [(0, 1), (1, 1), (2, 1), (3, 1)]) u62 zr62 Zk rfl rfl) ?_
 refine x_buildSliceL (cs := ([Value.string ⟨#[55, 48, 48]⟩, .string ⟨#[49, 32]⟩, .string ⟨#[]⟩, Value.slice (some ⟨p31, 0, none⟩) 1 1]) ++ [Value.string ⟨#[50, 52, 53]⟩, .string ⟨#[49, 48]⟩, .string ⟨#[]⟩, Value.slice (some ⟨p34, 0, none⟩) 1 1]) rfl rfl rfl u49 sz62 zr62 rfl rfl rfl ?_
 intro p36
 refine Xv (v := Value.agg ([Value.int .u8 0, Value.int .u8 0, Value.slice (some ⟨p36, 0, none⟩) 2 2]).toArray) rfl (v_buildL (cs := [Value.int .u8 0, Value.int .u8 0, Value.slice (some ⟨p36, 0, none⟩) 2 2]) (places := [(0, 1), (1, 1), (2, 1)]) u51 zr51 Zk rfl rfl) ?_
 refine x_fix (FO x3 exF ++ []) ((((List.sublist_cons_self _ _).trans (List.sublist_cons_self _ _)).trans (List.sublist_cons_self _ _))) fun w5 hw5 => ?_
 have hno5 : ∀ p, p ∈ [(Bk p36 (([Value.string ⟨#[55, 48, 48]⟩, .string ⟨#[49, 32]⟩, .string ⟨#[]⟩, Value.slice (some ⟨p31, 0, none⟩) 1 1]) ++ [Value.string ⟨#[50, 52, 53]⟩, .string ⟨#[49, 48]⟩, .string ⟨#[]⟩, Value.slice (some ⟨p34, 0, none⟩) 1 1]) 62), (Bk p34 (sbC ⟨97, ⟨#[84, 111, 109, 32, 83, 97, 119, 121, 101, 114]⟩⟩) 67), (Bk p31 (sbC ⟨97, ⟨#[116, 119, 97, 105, 110, 32, 109]⟩⟩) 67)] → notOwn (FO x3 exF ++ []) p.1 := fun p hp => hw5.notIn (l1 := [(Bk p36 (([Value.string ⟨#[55, 48, 48]⟩, .string ⟨#[49, 32]⟩, .string ⟨#[]⟩, Value.slice (some ⟨p31, 0, none⟩) 1 1]) ++ [Value.string ⟨#[50, 52, 53]⟩, .string ⟨#[49, 48]⟩, .string ⟨#[]⟩, Value.slice (some ⟨p34, 0, none⟩) 1 1]) 62), (Bk p34 (sbC ⟨97, ⟨#[84, 111, 109, 32, 83, 97, 119, 121, 101, 114]⟩⟩) 67), (Bk p31 (sbC ⟨97, ⟨#[116, 119, 97, 105, 110, 32, 109]⟩⟩) 67)]) (.refl _) hp
 have hg5 : sliceRd tyFl (notOwn (FO x3 exF ++ [])) w5 (Value.slice (some ⟨p36, 0, none⟩) 2 2) exG := by
  have h := fe_rd (TF := 62) (T := 67) (es := [(⟨exG[0], Value.slice (some ⟨p31, 0, none⟩) 1 1, some (p31, (sbC ⟨97, ⟨#[116, 119, 97, 105, 110, 32, 109]⟩⟩), 1)⟩ : FE), (⟨exG[1], Value.slice (some ⟨p34, 0, none⟩) 1 1, some (p34, (sbC ⟨97, ⟨#[84, 111, 109, 32, 83, 97, 119, 121, 101, 114]⟩⟩), 1)⟩ : FE)]) (C := some (p36, ([Value.string ⟨#[55, 48, 48]⟩, .string ⟨#[49, 32]⟩, .string ⟨#[]⟩, Value.slice (some ⟨p31, 0, none⟩) 1 1]) ++ [Value.string ⟨#[50, 52, 53]⟩, .string ⟨#[49, 48]⟩, .string ⟨#[]⟩, Value.slice (some ⟨p34, 0, none⟩) 1 1], 2)) (D := fun _ => True) (D' := notOwn (FO x3 exF ++ [])) hw5 (.head _) ⟨rfl, (by show 2 ≤ 2; decide), (by show 2 ≤ maxLen; simp only [maxLen]; omega), rfl, rfl⟩ (fun e he => by
    rcases List.mem_cons.1 he with rfl | he
    ·exact ⟨.inr ⟨rfl, rfl, (by show 1 ≤ 1; decide), (by show 1 ≤ maxLen; simp only [maxLen]; omega), rfl, rfl⟩, (exG_ok _ (.head _)).2.1⟩
    rw [List.mem_singleton.1 he]
    exact ⟨.inr ⟨rfl, rfl, (by show 1 ≤ 1; decide), (by show 1 ≤ maxLen; simp only [maxLen]; omega), rfl, rfl⟩, (exG_ok _ (.tail _ (.head _))).2.1⟩) (fun p hp => by rw [List.mem_singleton.1 hp]; exact .head _)
   (fun e he p hp => by
    rcases List.mem_cons.1 he with rfl | he
    ·rw [List.mem_singleton.1 hp]; exact .tail _ (.tail _ (.head _))
    rw [List.mem_singleton.1 he] at hp; rw [List.mem_singleton.1 hp]; exact .tail _ (.head _))
   (fun k hk hlt p hp he => by have h9 := hw5.apart p (.tail _ (.tail _ (.tail _ hp))) _ (.head _) trivial; simp only at h9; omega)
   (fun e he p hp => by
    rcases List.mem_cons.1 he with rfl | he
    ·exact hno5 p (by rw [List.mem_singleton.1 hp]; exact .tail _ (.tail _ (.head _)))
    rw [List.mem_singleton.1 he] at hp; exact hno5 p (by rw [List.mem_singleton.1 hp]; exact .tail _ (.head _)))
   (fun p hp => hno5 p (by rw [List.mem_singleton.1 hp]; exact .head _))
  exact h
 refine x_turn_n (τ := FM8) (fun y v wA wB => (FOK y exF ∧ y.pf = x0.pf) ∧ ∃ v', v = .agg #[.int .u8 0, .int .u8 0, v'] ∧ sliceRd tyFl (notOwn (FO y exF ++ [])) wB v' exG2) (fun y => FO y exF ++ []) rfl rfl Tryz.func28 Zk rfl (fun w1 hw1 => by
  have h := k_Rewrite (L := []) (kd := 0) (lv := 0) hx3 hs8_id (.head _) hg5 (fun h => by cases h) (by show 2 ≤ 100000; omega) exG_ok (.tail _ (.head _)) hL hw1
  rw [px3] at h
  refine h.mono fun e w2 ⟨y, v', h1, ⟨h2, h3⟩, h4, h5⟩ => ⟨_, h1, y, ⟨⟨h2, h3⟩, v', rfl, ?_⟩, h5⟩
  rw [stF_of ex_st, ex_rew] at h4
  exact h4) ?_
 rintro v38 x4 w6 w7 hw6 ⟨⟨hx4, px4⟩, v', rfl, hrd⟩ hw7
 obtain ⟨A2, c2, rfl, hl2c, hmx2, _⟩ := id hrd
 obtain ⟨b2, o2, vs2, rfl, hD2, hc2, hs2, _⟩ := fl8_at hrd (k := 0) (by decide)
 obtain ⟨A3, c3, rfl, hl3c, hmx3, _⟩ := id hs2
 obtain ⟨b3, o3, rfl, hD3, hc3⟩ := sb8_at hs2 (k := 0) (by decide)
 obtain ⟨b4, o4, e4, _, hc4⟩ := sb8_at hs2 (k := 1) (by decide)
 injection e4 with e4
 injection e4 with e5 e6
 subst e5 e6
 refine x_alloc rfl rfl rfl zr51 ?_
 intro p8
 refine x_store0 [] rfl rfl rfl rfl sz51 rfl rfl ?_
 refine Ze (Zt (Zs (Zr ?_)))
 refine Xm ?_
 refine Xv (v := Value.agg (ex7).cells.toArray) rfl (v_buildL (cs := (ex7).cells) (places := [(0, 1), (1, 1), (2, 1), (3, 1), (4, 1), (5, 1)]) u28 zr28 Zk rfl rfl) ?_
 refine x_mem (own' := FO x4 exF ++ [(Bk p8 [Value.int .u8 0, Value.int .u8 0, Value.slice (some ⟨b2, o2, none⟩) exG2.length c2] 51)]) (fun _ h => (h.perm (List.perm_append_comm (l₁ := [(Bk p8 [Value.int .u8 0, Value.int .u8 0, Value.slice (some ⟨b2, o2, none⟩) exG2.length c2] 51)]) (l₂ := FO x4 exF ++ []))).to (by rw [List.append_nil])) ?_
 refine x_turn (τ := FM8) (fst := #[]) (cap := #[]) (v := Vi 0) (fun y => FOK y (exF ++ [ex7]) ∧ y.pf = x0.pf) (fun y => FO y (exF ++ [ex7]) ++ [(Bk p8 [Value.int .u8 0, Value.int .u8 0, Value.slice (some ⟨b2, o2, none⟩) exG2.length c2] 51)]) rfl rfl rfl Tryz.func17 Zk rfl (fun w1 hw1 => by
  simp only [Array.empty_append, Array.append_empty]
  have h := k_Take (f := ex7) (L := [(Bk p8 [Value.int .u8 0, Value.int .u8 0, Value.slice (some ⟨b2, o2, none⟩) exG2.length c2] 51)]) hx4 ex7_in (.tail _ (.tail _ (.head _))) hL hw1
  rw [ex_take7, px4] at h
  exact h) ?_
 rintro x5 ⟨hx5, px5⟩
 refine Xa ?_
 refine Ze (Zt (Zs (Zr ?_)))
 refine Xm ?_
 refine x_turnV (τ := RowS × FM8) (fst := #[]) (cap := #[]) (fun z => rowV z.1 1) (fun z => rowOK 6 z.1 [ex7].length (fdsC [ex7]) ∧ FOK z.2 (exF ++ [ex7])) (fun z => FO z.2 (exF ++ [ex7]) ++ (rowO 28 z.1 ++ [(Bk p8 [Value.int .u8 0, Value.int .u8 0, Value.slice (some ⟨b2, o2, none⟩) exG2.length c2] 51)])) rfl rfl rfl Tryz.func20 Zk rfl (fun w1 hw1 => by
  simp only [Array.empty_append, Array.append_empty]
  have h := k_Refused (L := [(Bk p8 [Value.int .u8 0, Value.int .u8 0, Value.slice (some ⟨b2, o2, none⟩) exG2.length c2] 51)]) hx5 (.tail _ (.tail _ (.head _))) hL hw1
  rw [show (stF (exF ++ [ex7])).ref = [ex7] from by rw [stF_of ex_st7], px5] at h
  exact h.mono fun e w2 ⟨R, h1, h2, y, ⟨h3, _⟩, h4⟩ => ⟨(R, y), h1, ⟨h2, h3⟩, h4⟩) ?_
 rintro ⟨R7, x6⟩ ⟨hR7, hx6⟩
 obtain ⟨g7, cs7, c7, hRg7, hcp7, hc7⟩ := fd_cell (fs := [ex7]) hR7 (k := 0) (by decide)
 refine Xa ?_
 refine Ze (Zt (Zs (Zs (Zr ?_))))
 refine Xf 2 rfl u51 rfl sz49 ?_
 refine Xl rfl u49 rfl (at_ownL (vs := [Value.int .u8 0, Value.int .u8 0, Value.slice (some ⟨b2, o2, none⟩) exG2.length c2]) (List.mem_append_right _ (List.mem_append_right _ (.head _))) rfl) ?_
 refine Xv (v := Vi (exG2.length : Nat)) rfl (v_len_slice u49 rfl) ?_
 refine Xb rfl (v_neq rfl rfl) fun b47 hb47 => ?_
 obtain rfl : b47 = false := hb47.trans (by decide)
 refine Xm ?_
 refine x_valg rfl rfl rfl rfl rfl (v_fieldAddr (off' := 2) u51 rfl sz49 (by decide) rfl rfl) ?_
 refine x_valg rfl rfl rfl rfl rfl (v_load u49 rfl rfl (at_ownL (vs := [Value.int .u8 0, Value.int .u8 0, Value.slice (some ⟨b2, o2, none⟩) exG2.length c2]) (List.mem_append_right _ (List.mem_append_right _ (.head _))) rfl)) ?_
 refine x_valg rfl rfl rfl rfl rfl (v_indexAddr (j := 0) u49 sz62 rfl rfl (by decide) rfl) ?_
 refine x_valg rfl rfl rfl rfl rfl (v_fieldAddr u62 rfl sz60 (by decide) rfl rfl) ?_
 refine x_valg rfl rfl rfl rfl rfl (v_load u60 rfl rfl (at_ro (.head _) hD2 (v := Value.slice (some ⟨b3, o3, none⟩) exG2[0].subs.length c3) (hc2 3 (by show 3 < 4; decide)))) ?_
 refine x_valg (v := Vi (exG2[0].subs.length : Nat)) rfl rfl rfl rfl rfl (v_len_slice u60 rfl) ?_
 refine x_boolg rfl rfl rfl rfl rfl (v_neq rfl rfl) fun b55 hb55 => ?_
 obtain rfl : b55 = false := hb55.trans (by decide)
 refine Xb rfl (v_or rfl rfl) fun b56 hb56 => ?_
 obtain rfl : b56 = false := hb56
 refine Xm ?_
 refine x_valg rfl rfl rfl rfl rfl (v_move rfl) ?_
 refine x_valg (v := Vi ((1 : Nat) : Int)) rfl rfl rfl rfl rfl (v_len_slice u24 rfl) ?_
 refine x_boolg rfl rfl rfl rfl rfl (v_neq rfl rfl) fun b60 hb60 => ?_
 obtain rfl : b60 = false := hb60.trans (by decide)
 refine Xb rfl (v_or rfl rfl) fun b61 hb61 => ?_
 obtain rfl : b61 = false := hb61
 refine Ze (Zt ?_)
 refine w_cond rfl (fun hc61 => ?_) fun hc61 => ?_
 ·cases hc61
 skip
 refine w_skip (Zt (Zs (Zr ?_)))
 refine Xf 2 rfl u51 rfl sz49 ?_
 refine Xl rfl u49 rfl (at_ownL (vs := [Value.int .u8 0, Value.int .u8 0, Value.slice (some ⟨b2, o2, none⟩) exG2.length c2]) (List.mem_append_right _ (List.mem_append_right _ (.head _))) rfl) ?_
 refine Xv rfl (v_indexAddr (j := 0) u49 sz62 rfl rfl (by decide) rfl) ?_
 refine Xf _ rfl u62 rfl sz60 ?_
 refine Xl rfl u60 rfl (at_ro (.head _) hD2 (v := Value.slice (some ⟨b3, o3, none⟩) exG2[0].subs.length c3) (hc2 3 (by show 3 < 4; decide))) ?_
 refine Xa ?_
 refine Ze (Zt (Zs (Zr ?_)))
 refine Xm ?_
 refine Xm ?_
 refine x_valg rfl rfl rfl rfl rfl (v_move rfl) ?_
 refine Xb rfl (v_and rfl rfl) fun b70 hb70 => ?_
 obtain rfl : b70 = true := hb70
 refine Xm ?_
 refine x_valg rfl rfl rfl rfl rfl (v_move rfl) ?_
 refine Xb rfl (v_and rfl rfl) fun b73 hb73 => ?_
 obtain rfl : b73 = true := hb73
 refine Xm ?_
 refine x_valg rfl rfl rfl rfl rfl (v_move rfl) ?_
 refine x_boolg rfl rfl rfl rfl rfl (v_eql rfl rfl) fun b76 hb76 => ?_
 obtain rfl : b76 = true := hb76.trans (by decide)
 refine Xb rfl (v_and rfl rfl) fun b77 hb77 => ?_
 obtain rfl : b77 = true := hb77
 refine Xm ?_
 refine x_valg rfl rfl rfl rfl rfl (v_move rfl) ?_
 refine x_boolg rfl rfl rfl rfl rfl (v_eql rfl rfl) fun b80 hb80 => ?_
 obtain rfl : b80 = true := hb80.trans (by decide)
 refine Xb rfl (v_and rfl rfl) fun b81 hb81 => ?_
 obtain rfl : b81 = true := hb81
 refine Xm ?_
 refine x_valg rfl rfl rfl rfl rfl (v_move rfl) ?_
 refine x_boolg rfl rfl rfl rfl rfl (v_eql rfl rfl) fun b84 hb84 => ?_
 obtain rfl : b84 = true := hb84.trans (by decide)
 refine Xb rfl (v_and rfl rfl) fun b85 hb85 => ?_
 obtain rfl : b85 = true := hb85
 refine Xm ?_
 refine x_valg rfl rfl rfl rfl rfl (v_move rfl) ?_
 refine x_boolg rfl rfl rfl rfl rfl (v_eql rfl rfl) fun b88 hb88 => ?_
 obtain rfl : b88 = true := hb88.trans (by decide)
 refine Xb rfl (v_and rfl rfl) fun b89 hb89 => ?_
 obtain rfl : b89 = true := hb89
 refine Xm ?_
 refine x_valg rfl rfl rfl rfl rfl (v_move rfl) ?_
 refine x_valg rfl rfl rfl rfl rfl (v_indexAddr (j := 0) u24 sz28 (congrArg (fun R => some (rowV R 1)) hRg7) rfl (by decide) rfl) ?_
 refine x_valg rfl rfl rfl rfl rfl (v_fieldAddr u28 rfl sz3 (by decide) rfl rfl) ?_
 refine x_valg rfl rfl rfl rfl rfl (v_load u3 rfl rfl (at_ownL (vs := cs7) (v := Vi 7) (List.mem_append_right _ (List.mem_append_left _ (by rw [hRg7]; exact .head _))) (hc7 1 (by decide)))) ?_
 refine x_boolg rfl rfl rfl rfl rfl (v_eql rfl rfl) fun b95 hb95 => ?_
 obtain rfl : b95 = true := hb95.trans (by decide)
 refine Xb rfl (v_and rfl rfl) fun b96 hb96 => ?_
 obtain rfl : b96 = true := hb96
 refine Xm ?_
 refine x_valg rfl rfl rfl rfl rfl (v_move rfl) ?_
 refine x_valg rfl rfl rfl rfl rfl (v_indexAddr (j := 0) u60 sz67 rfl rfl (by decide) rfl) ?_
 refine x_valg rfl rfl rfl rfl rfl (v_loadN (vs := sbC (exG2[0].subs[0])) u67 rfl sz67 rfl (fun i hi => at_ro (.head _) hD3 (hc3 i hi))) ?_
 refine x_valg (v := Value.agg (sbC ⟨97, T8b⟩).toArray) rfl rfl rfl rfl rfl (v_buildL (cs := sbC ⟨97, T8b⟩) (places := [(0, 1), (1, 1)]) u67 zr67 Zk rfl rfl) ?_
 refine x_boolg rfl rfl rfl rfl rfl (v_eqA Zk rfl rfl (fun w1 => eqSB w1 (exG2[0].subs[0]) ⟨97, T8b⟩)) fun b102 hb102 => ?_
 obtain rfl : b102 = true := hb102.trans (by decide)
 refine Xb rfl (v_and rfl rfl) fun b103 hb103 => ?_
 obtain rfl : b103 = true := hb103
 refine Xm ?_
 refine x_valg rfl rfl rfl rfl rfl (v_move rfl) ?_
 refine x_valg rfl rfl rfl rfl rfl (v_indexAddr (j := 1) u60 sz67 rfl rfl (by decide) rfl) ?_
 refine x_valg rfl rfl rfl rfl rfl (v_loadN (vs := sbC (exG2[0].subs[1])) u67 rfl sz67 rfl (fun i hi => at_ro (.head _) hD3 (hc4 i hi))) ?_
 refine x_valg (v := Value.agg (sbC ⟨48, ⟨#[50]⟩⟩).toArray) rfl rfl rfl rfl rfl (v_buildL (cs := sbC ⟨48, ⟨#[50]⟩⟩) (places := [(0, 1), (1, 1)]) u67 zr67 Zk rfl rfl) ?_
 refine x_boolg rfl rfl rfl rfl rfl (v_eqA Zk rfl rfl (fun w1 => eqSB w1 (exG2[0].subs[1]) ⟨48, ⟨#[50]⟩⟩)) fun b109 hb109 => ?_
 obtain rfl : b109 = true := hb109.trans (by decide)
 refine Xb rfl (v_and rfl rfl) fun b110 hb110 => ?_
 obtain rfl : b110 = true := hb110
 refine Xa ?_
 refine Ze (Zt (w_ret ?_))
 exact ret1 rfl rfl (fun w' hm => ⟨rfl, hm.base (by simp)⟩)
end Go.Proofs.YtnflcekodobdlaaGreatDoor

namespace Go.Proofs.YtnflcekodobdlaaGreatDoor
open Go.RowKit Go.PK
attribute [local irreducible] WX
def askL : List ByteArray := [⟨#[116, 119, 97, 105, 110, 32, 77, 65, 82, 75]⟩, ⟨#[67, 108, 101, 109, 101, 110, 115]⟩, ⟨#[71, 101, 111, 114, 103, 101, 32, 69, 108, 105, 111, 116]⟩, ⟨#[101, 108, 105, 111, 116, 32, 103, 101, 111, 114, 103, 101]⟩, ⟨#[101, 118, 97, 110, 115]⟩, ⟨#[115, 111, 110, 103, 115]⟩, ⟨#[77, 117, 115, 105, 99]⟩, ⟨#[90, 111, 108, 97, 33]⟩, ⟨#[116, 119, 97, 105, 110]⟩, ⟨#[111, 102]⟩, ⟨#[]⟩, ⟨#[45]⟩]
theorem titN_sz (n : Int) : (titN n).size ≤ 20 := by
 have h1 : ∀ t ∈ titL, t.size ≤ 20 := by decide
 unfold titN
 rw [List.getD_eq_getElem?_getD]
 cases h : titL[(n % 5).toNat]? with
 | none => exact Nat.zero_le _
 | some x => exact h1 x (List.mem_of_getElem? h)
theorem FO_head (x : FM8) (fs : List FD) : (Bk x.pf (fmC x fs.length) 78) ∈ FO x fs := .head _
theorem FO_row (x : FM8) (fs : List FD) : ∀ q ∈ rowO 28 x.F, q ∈ FO x fs := fun q hq => .tail _ (List.mem_append_left _ hq)
def MO8 (pm : Nat) (M : RowS) (n : Nat) : List (Nat × Obj) := (Bk pm [rowV M n] 48) :: rowO 28 M
end Go.Proofs.YtnflcekodobdlaaGreatDoor

namespace Go.Proofs.YtnflcekodobdlaaGreatDoor
open Go.RowKit Go.PK
attribute [local irreducible] WX
end Go.Proofs.YtnflcekodobdlaaGreatDoor

namespace Go.Proofs.YtnflcekodobdlaaGreatDoor
open Go.RowKit Go.PK
attribute [local irreducible] WX
end Go.Proofs.YtnflcekodobdlaaGreatDoor

namespace Go.Proofs.YtnflcekodobdlaaGreatDoor
open Go.RowKit Go.PK
attribute [local irreducible] WX
end Go.Proofs.YtnflcekodobdlaaGreatDoor

namespace Go.Proofs.YtnflcekodobdlaaGreatDoor
open Go.RowKit Go.PK
attribute [local irreducible] WX
end Go.Proofs.YtnflcekodobdlaaGreatDoor

namespace Go.Proofs.YtnflcekodobdlaaGreatDoor
open Go.RowKit Go.PK
attribute [local irreducible] WX
end Go.Proofs.YtnflcekodobdlaaGreatDoor

namespace Go.Proofs.YtnflcekodobdlaaGreatDoor
open Go.RowKit Go.PK
attribute [local irreducible] WX
theorem three3 {l : List Int} (h : l.length = 3) : ∃ q0 q1 q2, l = [q0, q1, q2] := by
 match l, h with
 | [q0, q1, q2], _ => exact ⟨q0, q1, q2, rfl⟩
structure RecW (fs : List Fl) (es : List FE) (C : RowS) : Prop where
  fs : es.map (·.f) = fs
  row : rowOK 4 C es.length (es.flatMap feC)
  ok : ∀ e ∈ es, e.v = rowV e.S e.f.subs.length ∧ rowOK 2 e.S e.f.subs.length (e.f.subs.flatMap sbC)
theorem sbC_app (l : List Sb) (s : Sb) : (l ++ [s]).flatMap sbC = l.flatMap sbC ++ sbC s := by rw [List.flatMap_append]; simp
theorem EOs_snoc (T : TypeId) (es : List FE) (e : FE) : EOs T (es ++ [e]) = EOs T es ++ rowO T e.S := by unfold EOs; rw [List.flatMap_append]; simp
theorem rec_p2 {α : Type} {p : α} {C E : List α} : (p :: (C ++ E)).Perm (C ++ (E ++ [p])) := by
 rw [← List.append_assoc]
 exact (List.perm_append_comm (l₁ := [p]))
theorem rec_p0 {α : Type} {a c d e f : α} : (a :: c :: d :: e :: f :: []).Perm (a :: c :: d :: f :: e :: []) := (((List.Perm.swap _ _ _).cons _).cons _).cons _
theorem rec_p1 {α : Type} {S C E : List α} {a c d e : α} : (S ++ (a :: c :: d :: e :: (C ++ E))).Perm (a :: c :: d :: e :: (C ++ (E ++ S))) := by
 rw [← List.append_assoc C E S]
 exact (List.perm_append_comm (l₁ := S) (l₂ := a :: c :: d :: e :: (C ++ E)))
set_option maxHeartbeats 4000000 in
theorem r_Record {A0 : Option Addr} {c0 : Nat} {qs : List (List Int)} (ti : Int) (w : World) (hti : in64 ti) (hq : sliceRd (tyArr (tyK .i64) 3) (fun _ => True) w (.slice A0 qs.length c0) qs) :
  Calls Tryz.prog 26 #[Vi ti, .slice A0 qs.length c0] w fun e w' => ∃ es C, e = .returned (.agg #[.int .u8 97, .int .u8 109, rowV C es.length]) ∧ RecW (rqF (titN ti) qs) es C ∧ Mem w' (rowO 62 C ++ EOs 67 es) [(w, fun _ => True)] := by
 refine enter (vs := [Vi ti, .slice A0 qs.length c0]) Tryz.func26 rfl Tryz.ntmps26 rfl ?_
 refine Zs (Zr ?_)
 refine x_alloc rfl rfl rfl zr51 ?_
 intro p4
 refine Ze (Zt (Zs (Zr ?_)))
 refine Xv (v := Value.agg (flV8 rq0 (.slice none 0 0)).toArray) rfl (v_buildL (cs := flV8 rq0 (.slice none 0 0)) (places := [(0, 1), (1, 1), (2, 1), (3, 1)]) u62 zr62 Zk rfl rfl) ?_
 refine x_buildSliceL (cs := flV8 rq0 (.slice none 0 0)) rfl rfl rfl u49 sz62 zr62 rfl rfl rfl ?_
 intro p12
 refine Xv (v := Value.agg [Value.int .u8 97, Value.int .u8 109, Value.slice (some ⟨p12, 0, none⟩) 1 1].toArray) rfl (v_buildL (cs := [Value.int .u8 97, Value.int .u8 109, Value.slice (some ⟨p12, 0, none⟩) 1 1]) (places := [(0, 1), (1, 1), (2, 1)]) u51 zr51 Zk rfl rfl) ?_
 refine x_alloc rfl rfl rfl zr51 ?_
 intro p5
 refine x_store0 [] rfl rfl rfl rfl sz51 rfl rfl ?_
 refine Ze (Zt (Zs (Zr ?_)))
 refine x_buildSliceL (cs := tagsR.map Value.string) rfl rfl rfl u38 sz9 zr9 rfl rfl Zk ?_
 intro p14
 refine Xa ?_
 refine Ze (Zt (Zs (Zr ?_)))
 refine x_buildSliceL (cs := namesR.map Value.string) rfl rfl rfl u38 sz9 zr9 rfl rfl Zk ?_
 intro p15
 refine Xa ?_
 refine Ze (Zt (Zs (Zs (Zr ?_))))
 refine Xa ?_
 refine Ze (Zt (w_block ?_))
 refine w_loop (σ := Nat × List FE × RowS) (fun z => z.1 ≤ qs.length ∧ z.1 ≤ 12 ∧ RecW (rqK qs z.1) z.2.1 z.2.2) (fun z => [(0, Vi ti), (1, Value.slice A0 qs.length c0), (4, Pt p4), (5, Pt p5), (6, Value.slice (some ⟨p14, 0, none⟩) 7 7), (7, Value.slice (some ⟨p15, 0, none⟩) 8 8), (8, Vi (z.1 : Nat))]) (fun z => (Bk p15 (namesR.map Value.string) 9) :: (Bk p14 (tagsR.map Value.string) 9) :: (Bk p5 [Value.int .u8 97, Value.int .u8 109, rowV z.2.2 z.2.1.length] 51) :: (Bk p4 [Value.int .u8 0, Value.int .u8 0, Value.slice none 0 0] 51) :: (rowO 62 z.2.2 ++ EOs 67 z.2.1)) (fun z => [(w, fun _ => True)]) (fun z => qs.length - z.1) ((0, [⟨rq0, .slice none 0 0, none⟩], some (p12, flV8 rq0 (.slice none 0 0), 1))) (⟨Nat.zero_le _, Nat.zero_le _, rfl, ⟨rfl, (by show 1 ≤ 1; decide), (by show 1 ≤ maxLen; simp only [maxLen]; omega), rfl, rfl⟩, fun e he => by rw [List.mem_singleton.1 he]; exact ⟨rfl, rowOK_nil⟩⟩) (l_start Zu (fun w1 h => (h.perm rec_p0).to rfl)) ?_
 rintro ⟨k, es, C⟩ ⟨hk, hk12, hW⟩
 refine w_state ([(0, Vi ti), (1, Value.slice A0 qs.length c0), (4, Pt p4), (5, Pt p5), (6, Value.slice (some ⟨p14, 0, none⟩) 7 7), (7, Value.slice (some ⟨p15, 0, none⟩) 8 8), (8, Vi (k : Nat))]) ((Bk p15 (namesR.map Value.string) 9) :: (Bk p14 (tagsR.map Value.string) 9) :: (Bk p5 [Value.int .u8 97, Value.int .u8 109, rowV C es.length] 51) :: (Bk p4 [Value.int .u8 0, Value.int .u8 0, Value.slice none 0 0] 51) :: (rowO 62 C ++ EOs 67 es)) ([(w, fun _ => True)]) ?_
 dsimp only at hk hk12 hW
 have hel : es.length = k + 1 := by have h9 := congrArg List.length hW.fs; rw [List.length_map, rqK_len hk] at h9; exact h9
 refine Zs (Zs (Zr ?_))
 refine Xm ?_
 refine Xm ?_
 refine Xv (v := Vi (qs.length : Nat)) rfl (v_len_slice u43 rfl) ?_
 refine Xb rfl (v_lss rfl rfl) fun b19 hb19 => ?_
 refine Xm ?_
 refine Xg ?_
 refine Xj rfl rfl rfl (fun hg0 => by subst hg0; (try simp only [Qy]); exact v_lss rfl rfl) fun b22 hb22 => ?_
 refine Xb rfl (v_and rfl rfl) fun b23 hb23 => ?_
 refine Ze (Zt ?_)
 refine w_cond rfl (fun hc23 => ?_) fun hc23 => ?_
 ·simp only [hb23, hb22, hb19, Qz, ne_eq] at hc23
  have hkl : k < qs.length := by omega
  have hk12b : k < 12 := by omega
  obtain ⟨b0, o0, hA0, _, hl3, hin3, hcq⟩ := q_at hq hkl
  obtain ⟨q0, q1, q2, hqe⟩ := three3 hl3
  have hfq : rqQ qs[k] = rqL q0 q1 q2 := by rw [hqe]; rfl
  rw [hqe] at hcq hin3
  have hq3 : in64 q0 ∧ in64 q1 ∧ in64 q2 := by simpa using hin3
  have hb7 : (q0 % 7).toNat < 7 := by omega
  have hb8 : (q2 % 8).toNat < 8 := by omega
  have hb4 : (q1.tdiv 12 % 4).toNat < 4 := by omega
  have hlB := rqB_len q1 q2
  have hlC := rqC_len q1 q2
  have hlA : (rqA q1 q2).length ≤ 1 := by unfold rqB at hlB; rw [List.length_append] at hlB; exact Nat.le_of_succ_le_succ hlB
  refine w_skip (Zt (Zs (w_block (Zs (Zr ?_)))))
  refine Xm ?_
  refine Xm ?_
  refine Xv rfl (v_indexAddr u43 sz106 (congrArg (fun A => some (Value.slice A qs.length c0)) hA0) rfl (hkl) rfl) ?_
  refine Xv rfl (v_loadN (vs := [Vi q0, Vi q1, Vi q2]) u106 rfl sz106 rfl (fun i hi => at_ro (.head _) trivial (hcq i hi))) ?_
  refine x_alloc rfl rfl rfl zr106 ?_
  intro p9
  refine x_store0 [] rfl rfl rfl rfl sz106 rfl rfl ?_
  refine Ze (Zt (Zs (Zr ?_)))
  refine Xm ?_
  refine Xv rfl (v_indexArr (j := 0) (off' := 0) u106 sz3 rfl rfl Zo rfl) ?_
  refine Xl rfl u3 rfl (at_ownL (vs := [Vi q0, Vi q1, Vi q2]) (v := Vi q0) (.head _) rfl) ?_
  refine x_callv (v := Vi (((q0 % 7).toNat : Nat) : Int)) rfl rfl rfl Tryz.func54 Zk rfl (fun w1 hw1 => by rw [Int.toNat_of_nonneg (Int.emod_nonneg _ (by decide))]; exact r_mod (q0) 7 w1 hq3.1 (by omega)) ?_
  refine Xv rfl (v_indexAddr u38 sz9 rfl rfl (hb7) rfl) ?_
  refine Xl rfl u9 rfl (at_ownL (vs := tagsR.map Value.string) (v := Value.string (tagsR.getD (q0 % 7).toNat ⟨#[]⟩)) (.tail _ (.tail _ (.head _))) (by rw [Nat.zero_add, Nat.mul_one, List.getElem?_map, List.getD_eq_getElem?_getD, List.getElem?_eq_getElem (show _ < tagsR.length from hb7)]; rfl)) ?_
  refine Xv (v := Value.agg [Value.string (tagsR.getD (q0 % 7).toNat ⟨#[]⟩), Value.string ⟨#[49, 32]⟩, Value.string ⟨#[]⟩, Value.slice none 0 0].toArray) rfl (v_buildL (cs := [Value.string (tagsR.getD (q0 % 7).toNat ⟨#[]⟩), Value.string ⟨#[49, 32]⟩, Value.string ⟨#[]⟩, Value.slice none 0 0]) (places := [(0, 1), (1, 1), (2, 1), (3, 1)]) u62 zr62 Zk rfl rfl) ?_
  refine x_alloc rfl rfl rfl zr62 ?_
  intro p10
  refine x_store0 [] rfl rfl rfl rfl sz62 rfl rfl ?_
  refine Ze (Zt ?_)
  refine w_seq_cut (σ := RowS) (fun S => rowOK 2 S (rqA q1 q2).length ((rqA q1 q2).flatMap sbC)) (fun S => [(0, Vi ti), (1, Value.slice A0 qs.length c0), (4, Pt p4), (5, Pt p5), (6, Value.slice (some ⟨p14, 0, none⟩) 7 7), (7, Value.slice (some ⟨p15, 0, none⟩) 8 8), (8, Vi (k : Nat)), (9, Pt p9), (10, Pt p10)]) (fun S => (Bk p10 [Value.string (tagsR.getD (q0 % 7).toNat ⟨#[]⟩), Value.string ⟨#[49, 32]⟩, Value.string ⟨#[]⟩, rowV S (rqA q1 q2).length] 62) :: (Bk p9 [Vi q0, Vi q1, Vi q2] 106) :: (rowO 67 S ++ ((Bk p15 (namesR.map Value.string) 9) :: (Bk p14 (tagsR.map Value.string) 9) :: (Bk p5 [Value.int .u8 97, Value.int .u8 109, rowV C es.length] 51) :: (Bk p4 [Value.int .u8 0, Value.int .u8 0, Value.slice none 0 0] 51) :: (rowO 62 C ++ EOs 67 es)))) (fun S => [(w, fun _ => True)]) ?_ ?_
  ·refine w_seq ?_
   refine Zr ?_
   refine Xv rfl (v_indexArr (j := 1) (off' := 1) u106 sz3 rfl rfl Zo rfl) ?_
   refine Xl rfl u3 rfl (at_ownL (vs := [Vi q0, Vi q1, Vi q2]) (v := Vi q1) (.tail _ (.head _)) rfl) ?_
   refine x_callv (v := Vi (q1 % 4)) rfl rfl rfl Tryz.func54 Zk rfl (fun w1 hw1 => r_mod (q1) 4 w1 hq3.2.1 (by omega)) ?_
   refine Xb rfl (v_gtr rfl rfl) fun b40 hb40 => ?_
   refine Ze (Zt ?_)
   refine w_cond rfl (fun hc40 => ?_) fun hc40 => ?_
   ·simp only [hb40, Qz, ne_eq] at hc40
    have hAe : rqA q1 q2 = [(⟨97, namesR.getD (q2 % 8).toNat ⟨#[]⟩⟩ : Sb)] := by unfold rqA; rw [if_pos hc40]
    refine rg_draw 10 [(true, 0), (true, 1), (true, 2), (true, 3), (true, 4), (true, 5), (true, 6), (true, 7), (true, 8), (false, 9)] Zk Zk ?_
    refine Xf 3 rfl u62 rfl sz60 ?_
    refine Xl rfl u60 rfl (at_ownL (vs := [Value.string (tagsR.getD (q0 % 7).toNat ⟨#[]⟩), Value.string ⟨#[49, 32]⟩, Value.string ⟨#[]⟩, Value.slice none 0 0]) (.head _) rfl) ?_
    refine Xm ?_
    refine Xv rfl (v_indexArr (j := 2) (off' := 2) u106 sz3 rfl rfl Zo rfl) ?_
    refine Xl rfl u3 rfl (at_ownL (vs := [Vi q0, Vi q1, Vi q2]) (v := Vi q2) (.tail _ (.head _)) rfl) ?_
    refine x_callv (v := Vi (((q2 % 8).toNat : Nat) : Int)) rfl rfl rfl Tryz.func54 Zk rfl (fun w1 hw1 => by rw [Int.toNat_of_nonneg (Int.emod_nonneg _ (by decide))]; exact r_mod (q2) 8 w1 hq3.2.2 (by omega)) ?_
    refine Xv rfl (v_indexAddr u38 sz9 rfl rfl (hb8) rfl) ?_
    refine Xl rfl u9 rfl (at_ownL (vs := namesR.map Value.string) (v := Value.string (⟨97, namesR.getD (q2 % 8).toNat ⟨#[]⟩⟩ : Sb).text) (.tail _ (.tail _ (.head _))) (by rw [Nat.zero_add, Nat.mul_one, List.getElem?_map, List.getD_eq_getElem?_getD, List.getElem?_eq_getElem (show _ < namesR.length from hb8)]; rfl)) ?_
    refine Xv (v := Value.agg (sbC (⟨97, namesR.getD (q2 % 8).toNat ⟨#[]⟩⟩ : Sb)).toArray) rfl (v_buildL (cs := sbC (⟨97, namesR.getD (q2 % 8).toNat ⟨#[]⟩⟩ : Sb)) (places := [(0, 1), (1, 1)]) u67 zr67 Zk rfl rfl) ?_
    refine x_buildSliceL (cs := sbC (⟨97, namesR.getD (q2 % 8).toNat ⟨#[]⟩⟩ : Sb)) rfl rfl rfl u60 sz67 zr67 rfl rfl rfl ?_
    intro p50
    refine x_append (e := 67) ((Bk p50 (sbC (⟨97, namesR.getD (q2 % 8).toNat ⟨#[]⟩⟩ : Sb)) 67) :: (Bk p10 [Value.string (tagsR.getD (q0 % 7).toNat ⟨#[]⟩), Value.string ⟨#[49, 32]⟩, Value.string ⟨#[]⟩, rowV none ([] : List Sb).length] 62) :: (Bk p9 [Vi q0, Vi q1, Vi q2] 106) :: []) (l2 := (Bk p15 (namesR.map Value.string) 9) :: (Bk p14 (tagsR.map Value.string) 9) :: (Bk p5 [Value.int .u8 97, Value.int .u8 109, rowV C es.length] 51) :: (Bk p4 [Value.int .u8 0, Value.int .u8 0, Value.slice none 0 0] 51) :: (rowO 62 C ++ EOs 67 es)) none (len := 0) (xs := []) rfl rfl rfl rfl rfl rowOK_nil u60 ap67 rfl rfl (m := 1) (news := sbC (⟨97, namesR.getD (q2 % 8).toNat ⟨#[]⟩⟩ : Sb)) (fun i9 hi9 => at_ownL (vs := sbC (⟨97, namesR.getD (q2 % 8).toNat ⟨#[]⟩⟩ : Sb)) (.head _) (by rw [Nat.zero_add]; exact List.getElem?_eq_getElem hi9)) rfl Zx (by omega) fun S' hS' => ?_
    refine Xf 3 rfl u62 rfl sz60 ?_
    refine x_store (cs := [Value.string (tagsR.getD (q0 % 7).toNat ⟨#[]⟩), Value.string ⟨#[49, 32]⟩, Value.string ⟨#[]⟩, rowV none ([] : List Sb).length]) (off := 3) (e := 62) (l2 := (Bk p9 [Vi q0, Vi q1, Vi q2] 106) :: (rowO 67 S' ++ ((Bk p15 (namesR.map Value.string) 9) :: (Bk p14 (tagsR.map Value.string) 9) :: (Bk p5 [Value.int .u8 97, Value.int .u8 109, rowV C es.length] 51) :: (Bk p4 [Value.int .u8 0, Value.int .u8 0, Value.slice none 0 0] 51) :: (rowO 62 C ++ EOs 67 es)))) [(Bk p50 (sbC (⟨97, namesR.getD (q2 % 8).toNat ⟨#[]⟩⟩ : Sb)) 67)] rfl rfl rfl (by simp) sz60 rfl (by show 3 + 1 ≤ 4; decide) ?_
    refine Ze ?_
    exact c_norm S' (by rw [hAe]; simpa using hS') Zu (fun w1 h => (h.less (List.sublist_cons_self _ _) (fun _ h => h)).to (by rw [hAe]; rfl))
   simp only [hb40, Qz, ne_eq] at hc40
   have hAe : rqA q1 q2 = [] := by unfold rqA; rw [if_neg hc40]
   refine w_skip ?_
   exact c_norm none (by rw [hAe]; exact rowOK_nil) Zu (fun w1 h => h.to (by rw [hAe]; rfl))
  rintro S hS
  refine w_state ([(0, Vi ti), (1, Value.slice A0 qs.length c0), (4, Pt p4), (5, Pt p5), (6, Value.slice (some ⟨p14, 0, none⟩) 7 7), (7, Value.slice (some ⟨p15, 0, none⟩) 8 8), (8, Vi (k : Nat)), (9, Pt p9), (10, Pt p10)]) ((Bk p10 [Value.string (tagsR.getD (q0 % 7).toNat ⟨#[]⟩), Value.string ⟨#[49, 32]⟩, Value.string ⟨#[]⟩, rowV S (rqA q1 q2).length] 62) :: (Bk p9 [Vi q0, Vi q1, Vi q2] 106) :: (rowO 67 S ++ ((Bk p15 (namesR.map Value.string) 9) :: (Bk p14 (tagsR.map Value.string) 9) :: (Bk p5 [Value.int .u8 97, Value.int .u8 109, rowV C es.length] 51) :: (Bk p4 [Value.int .u8 0, Value.int .u8 0, Value.slice none 0 0] 51) :: (rowO 62 C ++ EOs 67 es)))) ([(w, fun _ => True)]) ?_
  refine w_seq_cut (σ := RowS) (fun S => rowOK 2 S (rqB q1 q2).length ((rqB q1 q2).flatMap sbC)) (fun S => [(0, Vi ti), (1, Value.slice A0 qs.length c0), (4, Pt p4), (5, Pt p5), (6, Value.slice (some ⟨p14, 0, none⟩) 7 7), (7, Value.slice (some ⟨p15, 0, none⟩) 8 8), (8, Vi (k : Nat)), (9, Pt p9), (10, Pt p10)]) (fun S => (Bk p10 [Value.string (tagsR.getD (q0 % 7).toNat ⟨#[]⟩), Value.string ⟨#[49, 32]⟩, Value.string ⟨#[]⟩, rowV S (rqB q1 q2).length] 62) :: (Bk p9 [Vi q0, Vi q1, Vi q2] 106) :: (rowO 67 S ++ ((Bk p15 (namesR.map Value.string) 9) :: (Bk p14 (tagsR.map Value.string) 9) :: (Bk p5 [Value.int .u8 97, Value.int .u8 109, rowV C es.length] 51) :: (Bk p4 [Value.int .u8 0, Value.int .u8 0, Value.slice none 0 0] 51) :: (rowO 62 C ++ EOs 67 es)))) (fun S => [(w, fun _ => True)]) ?_ ?_
  ·refine rg_text ?_
   refine Xf 3 rfl u62 rfl sz60 ?_
   refine Xl rfl u60 rfl (at_ownL (vs := [Value.string (tagsR.getD (q0 % 7).toNat ⟨#[]⟩), Value.string ⟨#[49, 32]⟩, Value.string ⟨#[]⟩, rowV S (rqA q1 q2).length]) (.head _) rfl) ?_
   refine Xv (v := Value.agg (sbC sbD).toArray) rfl (v_buildL (cs := sbC sbD) (places := [(0, 1), (1, 1)]) u67 zr67 Zk rfl rfl) ?_
   refine x_buildSliceL (cs := sbC sbD) rfl rfl rfl u60 sz67 zr67 rfl rfl rfl ?_
   intro p56
   refine x_append (e := 67) ((Bk p56 (sbC sbD) 67) :: (Bk p10 [Value.string (tagsR.getD (q0 % 7).toNat ⟨#[]⟩), Value.string ⟨#[49, 32]⟩, Value.string ⟨#[]⟩, rowV S (rqA q1 q2).length] 62) :: (Bk p9 [Vi q0, Vi q1, Vi q2] 106) :: []) (l2 := (Bk p15 (namesR.map Value.string) 9) :: (Bk p14 (tagsR.map Value.string) 9) :: (Bk p5 [Value.int .u8 97, Value.int .u8 109, rowV C es.length] 51) :: (Bk p4 [Value.int .u8 0, Value.int .u8 0, Value.slice none 0 0] 51) :: (rowO 62 C ++ EOs 67 es)) S (len := (rqA q1 q2).length) (xs := (rqA q1 q2).flatMap sbC) rfl rfl rfl rfl (by simp) hS u60 ap67 rfl rfl (m := 1) (news := sbC sbD) (fun i9 hi9 => at_ownL (vs := sbC sbD) (.head _) (by rw [Nat.zero_add]; exact List.getElem?_eq_getElem hi9)) rfl Zx (by omega) fun S' hS' => ?_
   refine Xf 3 rfl u62 rfl sz60 ?_
   refine x_store (cs := [Value.string (tagsR.getD (q0 % 7).toNat ⟨#[]⟩), Value.string ⟨#[49, 32]⟩, Value.string ⟨#[]⟩, rowV S (rqA q1 q2).length]) (off := 3) (e := 62) (l2 := (Bk p9 [Vi q0, Vi q1, Vi q2] 106) :: (rowO 67 S' ++ ((Bk p15 (namesR.map Value.string) 9) :: (Bk p14 (tagsR.map Value.string) 9) :: (Bk p5 [Value.int .u8 97, Value.int .u8 109, rowV C es.length] 51) :: (Bk p4 [Value.int .u8 0, Value.int .u8 0, Value.slice none 0 0] 51) :: (rowO 62 C ++ EOs 67 es)))) [(Bk p56 (sbC sbD) 67)] rfl rfl rfl (by simp) sz60 rfl (by show 3 + 1 ≤ 4; decide) ?_
   refine Ze ?_
   exact c_norm S' (by unfold rqB; rw [List.length_append, sbC_app]; exact hS') Zu (fun w1 h => (h.less (List.sublist_cons_self _ _) (fun _ h => h)).to (by unfold rqB; rw [List.length_append]; rfl))
  rintro S hS
  refine w_state ([(0, Vi ti), (1, Value.slice A0 qs.length c0), (4, Pt p4), (5, Pt p5), (6, Value.slice (some ⟨p14, 0, none⟩) 7 7), (7, Value.slice (some ⟨p15, 0, none⟩) 8 8), (8, Vi (k : Nat)), (9, Pt p9), (10, Pt p10)]) ((Bk p10 [Value.string (tagsR.getD (q0 % 7).toNat ⟨#[]⟩), Value.string ⟨#[49, 32]⟩, Value.string ⟨#[]⟩, rowV S (rqB q1 q2).length] 62) :: (Bk p9 [Vi q0, Vi q1, Vi q2] 106) :: (rowO 67 S ++ ((Bk p15 (namesR.map Value.string) 9) :: (Bk p14 (tagsR.map Value.string) 9) :: (Bk p5 [Value.int .u8 97, Value.int .u8 109, rowV C es.length] 51) :: (Bk p4 [Value.int .u8 0, Value.int .u8 0, Value.slice none 0 0] 51) :: (rowO 62 C ++ EOs 67 es)))) ([(w, fun _ => True)]) ?_
  refine w_seq_cut (σ := RowS) (fun S => rowOK 2 S (rqC q1 q2).length ((rqC q1 q2).flatMap sbC)) (fun S => [(0, Vi ti), (1, Value.slice A0 qs.length c0), (4, Pt p4), (5, Pt p5), (6, Value.slice (some ⟨p14, 0, none⟩) 7 7), (7, Value.slice (some ⟨p15, 0, none⟩) 8 8), (8, Vi (k : Nat)), (9, Pt p9), (10, Pt p10)]) (fun S => (Bk p10 [Value.string (tagsR.getD (q0 % 7).toNat ⟨#[]⟩), Value.string ⟨#[49, 32]⟩, Value.string ⟨#[]⟩, rowV S (rqC q1 q2).length] 62) :: (Bk p9 [Vi q0, Vi q1, Vi q2] 106) :: (rowO 67 S ++ ((Bk p15 (namesR.map Value.string) 9) :: (Bk p14 (tagsR.map Value.string) 9) :: (Bk p5 [Value.int .u8 97, Value.int .u8 109, rowV C es.length] 51) :: (Bk p4 [Value.int .u8 0, Value.int .u8 0, Value.slice none 0 0] 51) :: (rowO 62 C ++ EOs 67 es)))) (fun S => [(w, fun _ => True)]) ?_ ?_
  ·refine w_seq ?_
   refine Zr ?_
   refine Xv rfl (v_indexArr (j := 1) (off' := 1) u106 sz3 rfl rfl Zo rfl) ?_
   refine Xl rfl u3 rfl (at_ownL (vs := [Vi q0, Vi q1, Vi q2]) (v := Vi q1) (.tail _ (.head _)) rfl) ?_
   refine Xv rfl (v_quoi (c := q1.tdiv 4) rfl rfl (by decide) rfl (tdiv_in hq3.2.1 (by decide))) ?_
   refine x_callv (v := Vi (q1.tdiv 4 % 3)) rfl rfl rfl Tryz.func54 Zk rfl (fun w1 hw1 => r_mod (q1.tdiv 4) 3 w1 (tdiv_in hq3.2.1 (by decide)) (by omega)) ?_
   refine Xb rfl (v_eql rfl rfl) fun b63 hb63 => ?_
   refine Ze (Zt ?_)
   refine w_cond rfl (fun hc63 => ?_) fun hc63 => ?_
   ·simp only [hb63, Qz, ne_eq] at hc63
    have hCe : rqC q1 q2 = rqB q1 q2 ++ [rqZ q1 q2] := by unfold rqC; rw [if_pos hc63]
    refine rg_draw 17 [(true, 0), (true, 1), (true, 3), (true, 4), (true, 5), (true, 6), (true, 9), (true, 10), (true, 11), (true, 12), (true, 13), (false, 2), (true, 7), (true, 8), (true, 14), (true, 15), (false, 16)] Zk Zk ?_
    refine Xf 3 rfl u62 rfl sz60 ?_
    refine Xl rfl u60 rfl (at_ownL (vs := [Value.string (tagsR.getD (q0 % 7).toNat ⟨#[]⟩), Value.string ⟨#[49, 32]⟩, Value.string ⟨#[]⟩, rowV S (rqB q1 q2).length]) (.head _) rfl) ?_
    refine Xv rfl (v_indexArr (j := 1) (off' := 1) u106 sz3 rfl rfl Zo rfl) ?_
    refine Xl rfl u3 rfl (at_ownL (vs := [Vi q0, Vi q1, Vi q2]) (v := Vi q1) (.tail _ (.head _)) rfl) ?_
    refine Xv rfl (v_quoi (c := q1.tdiv 12) rfl rfl (by decide) rfl (tdiv_in hq3.2.1 (by decide))) ?_
    refine x_callv (v := Vi (((q1.tdiv 12 % 4).toNat : Nat) : Int)) rfl rfl rfl Tryz.func54 Zk rfl (fun w1 hw1 => by rw [Int.toNat_of_nonneg (Int.emod_nonneg _ (by decide))]; exact r_mod (q1.tdiv 12) 4 w1 (tdiv_in hq3.2.1 (by decide)) (by omega)) ?_
    refine Xv rfl (v_indexArr (j := 2) (off' := 2) u106 sz3 rfl rfl Zo rfl) ?_
    refine Xl rfl u3 rfl (at_ownL (vs := [Vi q0, Vi q1, Vi q2]) (v := Vi q2) (.tail _ (.head _)) rfl) ?_
    refine Xv rfl (v_quoi (c := q2.tdiv 8) rfl rfl (by decide) rfl (tdiv_in hq3.2.2 (by decide))) ?_
    refine x_callv (v := Vi (q2.tdiv 8 % 10)) rfl rfl rfl Tryz.func54 Zk rfl (fun w1 hw1 => r_mod (q2.tdiv 8) 10 w1 (tdiv_in hq3.2.2 (by decide)) (by omega)) ?_
    refine x_callv rfl rfl rfl Tryz.func15 Zk rfl (fun w1 hw1 => r_Decimal _ w1 (by omega) (by unfold in64; omega)) ?_
    refine x_buildSliceL (cs := presR.map Value.string) rfl rfl rfl u38 sz9 zr9 rfl rfl Zk ?_
    intro p66
    refine Xv rfl (v_indexAddr u38 sz9 rfl rfl (hb4) rfl) ?_
    refine Xl rfl u9 rfl (at_ownL (vs := presR.map Value.string) (v := Value.string (presR.getD (q1.tdiv 12 % 4).toNat ⟨#[]⟩)) (.head _) (by rw [Nat.zero_add, Nat.mul_one, List.getElem?_map, List.getD_eq_getElem?_getD, List.getElem?_eq_getElem (show _ < presR.length from hb4)]; rfl)) ?_
    refine Xv rfl (v_sadd rfl rfl (by have h9 := rqZ_sz q1 q2; unfold rqZ at h9; dsimp only at h9; rw [ByteArray.size_append] at h9; omega)) ?_
    refine Xv (v := Value.agg (sbC (rqZ q1 q2)).toArray) rfl (v_buildL (cs := sbC (rqZ q1 q2)) (places := [(0, 1), (1, 1)]) u67 zr67 Zk rfl rfl) ?_
    refine x_buildSliceL (cs := sbC (rqZ q1 q2)) rfl rfl rfl u60 sz67 zr67 rfl rfl rfl ?_
    intro p80
    refine x_append (e := 67) ((Bk p80 (sbC (rqZ q1 q2)) 67) :: (Bk p66 (presR.map Value.string) 9) :: (Bk p10 [Value.string (tagsR.getD (q0 % 7).toNat ⟨#[]⟩), Value.string ⟨#[49, 32]⟩, Value.string ⟨#[]⟩, rowV S (rqB q1 q2).length] 62) :: (Bk p9 [Vi q0, Vi q1, Vi q2] 106) :: []) (l2 := (Bk p15 (namesR.map Value.string) 9) :: (Bk p14 (tagsR.map Value.string) 9) :: (Bk p5 [Value.int .u8 97, Value.int .u8 109, rowV C es.length] 51) :: (Bk p4 [Value.int .u8 0, Value.int .u8 0, Value.slice none 0 0] 51) :: (rowO 62 C ++ EOs 67 es)) S (len := (rqB q1 q2).length) (xs := (rqB q1 q2).flatMap sbC) rfl rfl rfl rfl (by simp) hS u60 ap67 rfl rfl (m := 1) (news := sbC (rqZ q1 q2)) (fun i9 hi9 => at_ownL (vs := sbC (rqZ q1 q2)) (.head _) (by rw [Nat.zero_add]; exact List.getElem?_eq_getElem hi9)) rfl Zx (by omega) fun S' hS' => ?_
    refine Xf 3 rfl u62 rfl sz60 ?_
    refine x_store (cs := [Value.string (tagsR.getD (q0 % 7).toNat ⟨#[]⟩), Value.string ⟨#[49, 32]⟩, Value.string ⟨#[]⟩, rowV S (rqB q1 q2).length]) (off := 3) (e := 62) (l2 := (Bk p9 [Vi q0, Vi q1, Vi q2] 106) :: (rowO 67 S' ++ ((Bk p15 (namesR.map Value.string) 9) :: (Bk p14 (tagsR.map Value.string) 9) :: (Bk p5 [Value.int .u8 97, Value.int .u8 109, rowV C es.length] 51) :: (Bk p4 [Value.int .u8 0, Value.int .u8 0, Value.slice none 0 0] 51) :: (rowO 62 C ++ EOs 67 es)))) [(Bk p80 (sbC (rqZ q1 q2)) 67), (Bk p66 (presR.map Value.string) 9)] rfl rfl rfl (by simp) sz60 rfl (by show 3 + 1 ≤ 4; decide) ?_
    refine Ze ?_
    exact c_norm S' (by rw [hCe, List.length_append, sbC_app]; exact hS') Zu (fun w1 h => (h.less ((List.sublist_cons_self _ _).trans (List.sublist_cons_self _ _)) (fun _ h => h)).to (by rw [hCe, List.length_append]; rfl))
   simp only [hb63, Qz, ne_eq] at hc63
   have hCe : rqC q1 q2 = rqB q1 q2 := by unfold rqC; rw [if_neg hc63]
   refine w_skip ?_
   exact c_norm S (by rw [hCe]; exact hS) Zu (fun w1 h => h.to (by rw [hCe]))
  rintro S hS
  refine w_state ([(0, Vi ti), (1, Value.slice A0 qs.length c0), (4, Pt p4), (5, Pt p5), (6, Value.slice (some ⟨p14, 0, none⟩) 7 7), (7, Value.slice (some ⟨p15, 0, none⟩) 8 8), (8, Vi (k : Nat)), (9, Pt p9), (10, Pt p10)]) ((Bk p10 [Value.string (tagsR.getD (q0 % 7).toNat ⟨#[]⟩), Value.string ⟨#[49, 32]⟩, Value.string ⟨#[]⟩, rowV S (rqC q1 q2).length] 62) :: (Bk p9 [Vi q0, Vi q1, Vi q2] 106) :: (rowO 67 S ++ ((Bk p15 (namesR.map Value.string) 9) :: (Bk p14 (tagsR.map Value.string) 9) :: (Bk p5 [Value.int .u8 97, Value.int .u8 109, rowV C es.length] 51) :: (Bk p4 [Value.int .u8 0, Value.int .u8 0, Value.slice none 0 0] 51) :: (rowO 62 C ++ EOs 67 es)))) ([(w, fun _ => True)]) ?_
  refine w_seq_cut (σ := RowS) (fun S => rowOK 2 S (rqD q1 q2).length ((rqD q1 q2).flatMap sbC)) (fun S => [(0, Vi ti), (1, Value.slice A0 qs.length c0), (4, Pt p4), (5, Pt p5), (6, Value.slice (some ⟨p14, 0, none⟩) 7 7), (7, Value.slice (some ⟨p15, 0, none⟩) 8 8), (8, Vi (k : Nat)), (9, Pt p9), (10, Pt p10)]) (fun S => (Bk p10 [Value.string (tagsR.getD (q0 % 7).toNat ⟨#[]⟩), Value.string ⟨#[49, 32]⟩, Value.string ⟨#[]⟩, rowV S (rqD q1 q2).length] 62) :: (Bk p9 [Vi q0, Vi q1, Vi q2] 106) :: (rowO 67 S ++ ((Bk p15 (namesR.map Value.string) 9) :: (Bk p14 (tagsR.map Value.string) 9) :: (Bk p5 [Value.int .u8 97, Value.int .u8 109, rowV C es.length] 51) :: (Bk p4 [Value.int .u8 0, Value.int .u8 0, Value.slice none 0 0] 51) :: (rowO 62 C ++ EOs 67 es)))) (fun S => [(w, fun _ => True)]) ?_ ?_
  ·refine w_seq ?_
   refine Zr ?_
   refine Xv rfl (v_indexArr (j := 1) (off' := 1) u106 sz3 rfl rfl Zo rfl) ?_
   refine Xl rfl u3 rfl (at_ownL (vs := [Vi q0, Vi q1, Vi q2]) (v := Vi q1) (.tail _ (.head _)) rfl) ?_
   refine Xv rfl (v_quoi (c := q1.tdiv 48) rfl rfl (by decide) rfl (tdiv_in hq3.2.1 (by decide))) ?_
   refine x_callv (v := Vi (q1.tdiv 48 % 4)) rfl rfl rfl Tryz.func54 Zk rfl (fun w1 hw1 => r_mod (q1.tdiv 48) 4 w1 (tdiv_in hq3.2.1 (by decide)) (by omega)) ?_
   refine Xb rfl (v_eql rfl rfl) fun b87 hb87 => ?_
   refine Ze (Zt ?_)
   refine w_cond rfl (fun hc87 => ?_) fun hc87 => ?_
   ·simp only [hb87, Qz, ne_eq] at hc87
    have hDe : rqD q1 q2 = rqC q1 q2 ++ rqC q1 q2 := by unfold rqD; rw [if_pos hc87]
    have hC0 : 0 < (rqC q1 q2).length := by unfold rqC rqB; split <;> simp
    obtain ⟨gS, csS, cpS, rfl, _⟩ := hS.cell (j := 0) (by rw [flC_len (c := sbC) (m := 2) (fun _ => rfl)]; omega)
    refine Zr ?_
    refine Xf 3 rfl u62 rfl sz60 ?_
    refine Xl rfl u60 rfl (at_ownL (vs := [Value.string (tagsR.getD (q0 % 7).toNat ⟨#[]⟩), Value.string ⟨#[49, 32]⟩, Value.string ⟨#[]⟩, rowV (some (gS, csS, cpS)) (rqC q1 q2).length]) (.head _) rfl) ?_
    refine Xf 3 rfl u62 rfl sz60 ?_
    refine Xl rfl u60 rfl (at_ownL (vs := [Value.string (tagsR.getD (q0 % 7).toNat ⟨#[]⟩), Value.string ⟨#[49, 32]⟩, Value.string ⟨#[]⟩, rowV (some (gS, csS, cpS)) (rqC q1 q2).length]) (.head _) rfl) ?_
    refine x_append (e := 67) ((Bk p10 [Value.string (tagsR.getD (q0 % 7).toNat ⟨#[]⟩), Value.string ⟨#[49, 32]⟩, Value.string ⟨#[]⟩, rowV (some (gS, csS, cpS)) (rqC q1 q2).length] 62) :: (Bk p9 [Vi q0, Vi q1, Vi q2] 106) :: []) (l2 := (Bk p15 (namesR.map Value.string) 9) :: (Bk p14 (tagsR.map Value.string) 9) :: (Bk p5 [Value.int .u8 97, Value.int .u8 109, rowV C es.length] 51) :: (Bk p4 [Value.int .u8 0, Value.int .u8 0, Value.slice none 0 0] 51) :: (rowO 62 C ++ EOs 67 es)) (some (gS, csS, cpS)) (len := (rqC q1 q2).length) (xs := (rqC q1 q2).flatMap sbC) rfl rfl rfl rfl (by simp [rowO]) hS u60 ap67 rfl (by rw [flC_len (c := sbC) (m := 2) (fun _ => rfl)]) (m := (rqC q1 q2).length) (news := (rqC q1 q2).flatMap sbC) (fun i9 hi9 => at_ownL (vs := csS) (.tail _ (.tail _ (.head _))) (by rw [Nat.zero_add]; obtain ⟨_, _, _, k4, k5⟩ := hS; dsimp only at k4 k5; have h9 := List.getElem?_eq_getElem hi9; rw [← h9, ← k5, List.getElem?_take_of_lt (by rw [flC_len (c := sbC) (m := 2) (fun _ => rfl)] at hi9; exact hi9)])) (sbC_one _) Zx (by omega) fun S' hS' => ?_
    refine Xf 3 rfl u62 rfl sz60 ?_
    refine x_store (cs := [Value.string (tagsR.getD (q0 % 7).toNat ⟨#[]⟩), Value.string ⟨#[49, 32]⟩, Value.string ⟨#[]⟩, rowV (some (gS, csS, cpS)) (rqC q1 q2).length]) (off := 3) (e := 62) (l2 := (Bk p9 [Vi q0, Vi q1, Vi q2] 106) :: (rowO 67 S' ++ ((Bk p15 (namesR.map Value.string) 9) :: (Bk p14 (tagsR.map Value.string) 9) :: (Bk p5 [Value.int .u8 97, Value.int .u8 109, rowV C es.length] 51) :: (Bk p4 [Value.int .u8 0, Value.int .u8 0, Value.slice none 0 0] 51) :: (rowO 62 C ++ EOs 67 es)))) [] rfl rfl rfl (by simp) sz60 rfl (by show 3 + 1 ≤ 4; decide) ?_
    refine Ze ?_
    exact c_norm S' (by rw [hDe, List.length_append, List.flatMap_append]; exact hS') Zu (fun w1 h => h.to (by rw [hDe, List.length_append]; rfl))
   simp only [hb87, Qz, ne_eq] at hc87
   have hDe : rqD q1 q2 = rqC q1 q2 := by unfold rqD; rw [if_neg hc87]
   refine w_skip ?_
   exact c_norm S (by rw [hDe]; exact hS) Zu (fun w1 h => h.to (by rw [hDe]))
  rintro S hS
  refine w_state ([(0, Vi ti), (1, Value.slice A0 qs.length c0), (4, Pt p4), (5, Pt p5), (6, Value.slice (some ⟨p14, 0, none⟩) 7 7), (7, Value.slice (some ⟨p15, 0, none⟩) 8 8), (8, Vi (k : Nat)), (9, Pt p9), (10, Pt p10)]) ((Bk p10 [Value.string (tagsR.getD (q0 % 7).toNat ⟨#[]⟩), Value.string ⟨#[49, 32]⟩, Value.string ⟨#[]⟩, rowV S (rqD q1 q2).length] 62) :: (Bk p9 [Vi q0, Vi q1, Vi q2] 106) :: (rowO 67 S ++ ((Bk p15 (namesR.map Value.string) 9) :: (Bk p14 (tagsR.map Value.string) 9) :: (Bk p5 [Value.int .u8 97, Value.int .u8 109, rowV C es.length] 51) :: (Bk p4 [Value.int .u8 0, Value.int .u8 0, Value.slice none 0 0] 51) :: (rowO 62 C ++ EOs 67 es)))) ([(w, fun _ => True)]) ?_
  refine Zr ?_
  refine Xf 2 rfl u51 rfl sz49 ?_
  refine Xl rfl u49 rfl (at_ownL (vs := [Value.int .u8 97, Value.int .u8 109, rowV C es.length]) (.tail _ (.tail _ (List.mem_append_right _ (.tail _ (.tail _ (.head _)))))) rfl) ?_
  refine Xv (v := Value.agg (feC (⟨rqL q0 q1 q2, rowV S (rqD q1 q2).length, S⟩ : FE)).toArray) rfl (v_load_blk u62 rfl rfl (.head _) (by exact sz62)) ?_
  refine x_buildSliceL (cs := feC (⟨rqL q0 q1 q2, rowV S (rqD q1 q2).length, S⟩ : FE)) rfl rfl rfl u49 sz62 zr62 rfl rfl rfl ?_
  intro p97
  refine x_append (e := 62) ((Bk p97 (feC (⟨rqL q0 q1 q2, rowV S (rqD q1 q2).length, S⟩ : FE)) 62) :: (Bk p10 [Value.string (tagsR.getD (q0 % 7).toNat ⟨#[]⟩), Value.string ⟨#[49, 32]⟩, Value.string ⟨#[]⟩, rowV S (rqD q1 q2).length] 62) :: (Bk p9 [Vi q0, Vi q1, Vi q2] 106) :: (rowO 67 S ++ ((Bk p15 (namesR.map Value.string) 9) :: (Bk p14 (tagsR.map Value.string) 9) :: (Bk p5 [Value.int .u8 97, Value.int .u8 109, rowV C es.length] 51) :: (Bk p4 [Value.int .u8 0, Value.int .u8 0, Value.slice none 0 0] 51) :: []))) (l2 := EOs 67 es) C (len := es.length) (xs := es.flatMap feC) rfl rfl rfl rfl (by simp) hW.row u49 ap62 rfl rfl (m := 1) (news := feC (⟨rqL q0 q1 q2, rowV S (rqD q1 q2).length, S⟩ : FE)) (fun i9 hi9 => at_ownL (vs := feC (⟨rqL q0 q1 q2, rowV S (rqD q1 q2).length, S⟩ : FE)) (.head _) (by rw [Nat.zero_add]; exact List.getElem?_eq_getElem hi9)) rfl Zx (by omega) fun C' hC' => ?_
  refine Xf 2 rfl u51 rfl sz49 ?_
  refine x_store (cs := [Value.int .u8 97, Value.int .u8 109, rowV C es.length]) (off := 2) (e := 51) (l2 := (Bk p4 [Value.int .u8 0, Value.int .u8 0, Value.slice none 0 0] 51) :: (rowO 62 C' ++ EOs 67 es)) ((Bk p97 (feC (⟨rqL q0 q1 q2, rowV S (rqD q1 q2).length, S⟩ : FE)) 62) :: (Bk p10 [Value.string (tagsR.getD (q0 % 7).toNat ⟨#[]⟩), Value.string ⟨#[49, 32]⟩, Value.string ⟨#[]⟩, rowV S (rqD q1 q2).length] 62) :: (Bk p9 [Vi q0, Vi q1, Vi q2] 106) :: (rowO 67 S ++ ((Bk p15 (namesR.map Value.string) 9) :: (Bk p14 (tagsR.map Value.string) 9) :: []))) rfl rfl rfl (by simp) sz49 rfl (by show 2 + 1 ≤ 3; decide) ?_
  refine Ze (b_norm (Zt (Zr ?_)))
  refine Xm ?_
  refine Xv rfl (v_addi rfl rfl rfl Zo) ?_
  refine Xa ?_
  refine Ze ?_
  exact l_norm (k + 1, es ++ [(⟨rqL q0 q1 q2, rowV S (rqD q1 q2).length, S⟩ : FE)], C') ⟨hkl, hk12b, by dsimp only; rw [List.map_append, hW.fs, rqK_succ hkl, hfq]; rfl, by dsimp only; rw [List.length_append, List.flatMap_append]; simpa using hC', fun e he => by rcases List.mem_append.1 he with he | he; (· exact hW.ok e he); rw [List.mem_singleton.1 he]; exact ⟨rfl, hS⟩⟩ (by simp only; omega) Zu (fun w1 h => (((h.less (((List.Sublist.refl _).cons _).cons _ |>.cons _) (fun _ h => h)).to (List.append_assoc _ _ _)).perm (rec_p1 (S := rowO 67 S) (C := rowO 62 C') (E := EOs 67 es))).to (by dsimp only; rw [EOs_snoc, List.length_append]; rfl))
 simp only [hb23, hb22, hb19, Qz, ne_eq] at hc23
 have hke := rqK_all hk hk12 (by omega)
 refine w_exit ?_
 refine t_exit ?_
 refine t_exit ?_
 refine b_hit ?_
 refine Zt (Zs ?_)
 refine rg_draw 8 [(true, 0), (true, 1), (true, 2), (true, 3), (true, 4), (false, 5), (true, 6), (false, 7)] Zk Zk ?_
 refine Xf 2 rfl u51 rfl sz49 ?_
 refine Xl rfl u49 rfl (at_ownL (vs := [Value.int .u8 97, Value.int .u8 109, rowV C es.length]) (.tail _ (.tail _ (.head _))) rfl) ?_
 refine Xm ?_
 refine x_callv rfl rfl rfl Tryz.func30 Zk rfl (fun w1 hw1 => r_Title ti w1 hti) ?_
 refine Xv (v := Value.agg (sbC ⟨97, titN ti⟩).toArray) rfl (v_buildL (cs := sbC ⟨97, titN ti⟩) (places := [(0, 1), (1, 1)]) u67 zr67 Zk rfl rfl) ?_
 refine x_buildSliceL (cs := sbC ⟨97, titN ti⟩) rfl rfl rfl u60 sz67 zr67 rfl rfl rfl ?_
 intro p105
 refine Xv (v := Value.agg (flV8 (rqE (titN ti)) (.slice (some ⟨p105, 0, none⟩) 1 1)).toArray) rfl (v_buildL (cs := flV8 (rqE (titN ti)) (.slice (some ⟨p105, 0, none⟩) 1 1)) (places := [(0, 1), (1, 1), (2, 1), (3, 1)]) u62 zr62 Zk rfl rfl) ?_
 refine x_buildSliceL (cs := flV8 (rqE (titN ti)) (.slice (some ⟨p105, 0, none⟩) 1 1)) rfl rfl rfl u49 sz62 zr62 rfl rfl rfl ?_
 intro p107
 refine x_append (e := 62) ((Bk p107 (flV8 (rqE (titN ti)) (.slice (some ⟨p105, 0, none⟩) 1 1)) 62) :: (Bk p105 (sbC ⟨97, titN ti⟩) 67) :: (Bk p15 (namesR.map Value.string) 9) :: (Bk p14 (tagsR.map Value.string) 9) :: (Bk p5 [Value.int .u8 97, Value.int .u8 109, rowV C es.length] 51) :: (Bk p4 [Value.int .u8 0, Value.int .u8 0, Value.slice none 0 0] 51) :: []) (l2 := EOs 67 es) C (len := es.length) (xs := es.flatMap feC) rfl rfl rfl rfl (by simp) hW.row u49 ap62 rfl rfl (m := 1) (news := flV8 (rqE (titN ti)) (.slice (some ⟨p105, 0, none⟩) 1 1)) (fun i9 hi9 => at_ownL (vs := flV8 (rqE (titN ti)) (.slice (some ⟨p105, 0, none⟩) 1 1)) (.head _) (by rw [Nat.zero_add]; exact List.getElem?_eq_getElem hi9)) rfl Zx (by omega) fun C' hC' => ?_
 refine Xf 2 rfl u51 rfl sz49 ?_
 refine x_store (cs := [Value.int .u8 97, Value.int .u8 109, rowV C es.length]) (off := 2) (e := 51) (l2 := (Bk p4 [Value.int .u8 0, Value.int .u8 0, Value.slice none 0 0] 51) :: (rowO 62 C' ++ EOs 67 es)) ((Bk p107 (flV8 (rqE (titN ti)) (.slice (some ⟨p105, 0, none⟩) 1 1)) 62) :: (Bk p105 (sbC ⟨97, titN ti⟩) 67) :: (Bk p15 (namesR.map Value.string) 9) :: (Bk p14 (tagsR.map Value.string) 9) :: []) rfl rfl rfl (by simp) sz49 rfl (by show 2 + 1 ≤ 3; decide) ?_
 refine Ze (Zt (Zs (Zr ?_)))
 refine Xv rfl (v_load_blk u51 rfl rfl (by first | exact .head _ | exact .tail _ (.head _) | exact .tail _ (.tail _ (.head _)) | (repeat (first | exact List.Mem.head _ | apply List.Mem.tail | apply List.mem_append_right))) (by exact sz51)) ?_
 refine x_store0 [_, _, _, _, _] rfl rfl rfl rfl sz51 rfl rfl ?_
 refine Ze (Zt (w_ret ?_))
 refine retc (cs := #[.int .u8 97, .int .u8 109, rowV C' (es.length + 1)]) (e := 51) rfl rfl (.tail _ (.tail _ (.tail _ (.tail _ (.tail _ (.head _)))))) u51 rfl Zk (fun w' hm' => ?_)
 refine ⟨es ++ [(⟨rqE (titN ti), .slice (some ⟨p105, 0, none⟩) 1 1, some (p105, sbC ⟨97, titN ti⟩, 1)⟩ : FE)], C', by rw [List.length_append]; rfl, ⟨by rw [List.map_append, hW.fs, hke]; rfl, by rw [List.length_append, List.flatMap_append]; simpa [feC] using hC', fun e he => by rcases List.mem_append.1 he with he | he; (· exact hW.ok e he); rw [List.mem_singleton.1 he]; exact ⟨rfl, rfl, (by show 1 ≤ 1; decide), (by show 1 ≤ maxLen; simp only [maxLen]; omega), rfl, rfl⟩⟩, ?_⟩
 exact ((hm'.less ((((((List.Sublist.refl _).cons _).cons _).cons _).cons _).cons_cons _ |>.cons _) (fun _ h => h)).perm rec_p2).to (by simp [EOs, rowO])
end Go.Proofs.YtnflcekodobdlaaGreatDoor

namespace Go.Proofs.YtnflcekodobdlaaGreatDoor
open Go.RowKit Go.PK
attribute [local irreducible] WX
theorem fl_ext {f g : Fl} (h1 : f.tag = g.tag) (h2 : f.ind = g.ind) (h3 : f.data = g.data) (h4 : f.subs = g.subs) : f = g := by
 cases f; cases g; simp only at h1 h2 h3 h4; subst h1 h2 h3 h4; rfl
set_option maxHeartbeats 1000000 in
theorem r_SameFl {A1 A2 : Option Addr} {c1 c2 : Nat} {fs gs : List Fl} {D1 D2 : Nat → Prop} (w : World) (hf : sliceRd tyFl D1 w (.slice A1 fs.length c1) fs) (hg : sliceRd tyFl D2 w (.slice A2 gs.length c2) gs) :
  Calls Tryz.prog 57 #[.slice A1 fs.length c1, .slice A2 gs.length c2] w fun e w' => e = .returned (.bool (decide (fs = gs))) ∧ Later w w' := by
 have hmf : fs.length ≤ maxLen := by obtain ⟨_, _, _, _, h2, _⟩ := id hf; exact h2
 have hmg : gs.length ≤ maxLen := by obtain ⟨_, _, _, _, h2, _⟩ := id hg; exact h2
 simp only [maxLen] at hmf hmg
 refine enter (vs := [.slice A1 fs.length c1, .slice A2 gs.length c2]) Tryz.func57 rfl Tryz.ntmps57 rfl ?_
 refine Zs (Zr ?_)
 refine Xa ?_
 refine Ze (Zt (Zs (Zs (Zr ?_))))
 refine Xm ?_
 refine Xv (v := Vi (fs.length : Nat)) rfl (v_len_slice u49 rfl) ?_
 refine Xm ?_
 refine Xv (v := Vi (gs.length : Nat)) rfl (v_len_slice u49 rfl) ?_
 refine Xb rfl (v_neq rfl rfl) fun b13 hb13 => ?_
 refine Ze (Zt ?_)
 refine w_cond rfl (fun hc13 => ?_) fun hc13 => ?_
 ·simp only [hb13, Qz, ne_eq] at hc13
  have hnl : ¬fs.length = gs.length := by omega
  refine Zs (Zr ?_)
  refine Xa ?_
  refine Ze (Zt (w_ret (t_ret ?_)))
  refine ret1 rfl rfl (fun w' hm => ⟨?_, hm.base (by simp)⟩)
  rw [decide_eq_false (fun h => hnl (congrArg List.length h))]
 simp only [hb13, Qz, ne_eq] at hc13
 have hll : fs.length = gs.length := by omega
 refine w_skip (Zt (Zs (Zs (Zr ?_))))
 refine Xa ?_
 refine Ze (Zt (w_block ?_))
 refine w_loop (σ := Nat) (fun k => k ≤ fs.length ∧ fs.take k = gs.take k) (fun k => [(0, Value.slice A1 fs.length c1), (1, Value.slice A2 gs.length c2), (5, Vi (k : Nat))]) (fun k => []) (fun k => [(w, fun _ => True)]) (fun k => fs.length - k) (0) (⟨Nat.zero_le _, rfl⟩) (l_start Zu (fun _ h => h)) ?_
 rintro k ⟨hk, hsa⟩
 refine w_state ([(0, Value.slice A1 fs.length c1), (1, Value.slice A2 gs.length c2), (5, Vi (k : Nat))]) ([]) ([(w, fun _ => True)]) ?_
 refine Zs (Zs (Zr ?_))
 refine Xm ?_
 refine Xm ?_
 refine Xv (v := Vi (fs.length : Nat)) rfl (v_len_slice u49 rfl) ?_
 refine Xb rfl (v_lss rfl rfl) fun b17 hb17 => ?_
 refine Ze (Zt ?_)
 refine w_cond rfl (fun hc17 => ?_) fun hc17 => ?_
 ·simp only [hb17, Qz, ne_eq] at hc17
  have hkl : k < fs.length := by omega
  have hkl2 : k < gs.length := by omega
  obtain ⟨b1, o1, v1, hA1, _, hc1, hs1, _⟩ := fl8_at hf hkl
  obtain ⟨b2, o2, v2, hA2, _, hc2, hs2, _⟩ := fl8_at hg hkl2
  obtain ⟨A3, c3, rfl, hlc3, hmx3, _⟩ := id hs1
  obtain ⟨A4, c4, rfl, hlc4, hmx4, _⟩ := id hs2
  refine w_skip (Zt (Zs (w_block (Zs (Zr ?_)))))
  refine Xm ?_
  refine Xm ?_
  refine Xv rfl (v_indexAddr u49 sz62 (congrArg (fun A => some (Value.slice A fs.length c1)) hA1) rfl (hkl) rfl) ?_
  refine Xv rfl (v_loadN (vs := flV8 fs[k] (Value.slice A3 fs[k].subs.length c3)) u62 rfl sz62 rfl (fun i hi => at_ro (.head _) trivial (hc1 i hi))) ?_
  refine x_alloc rfl rfl rfl zr62 ?_
  intro p6
  refine x_store0 [] rfl rfl rfl rfl sz62 rfl rfl ?_
  refine Ze (Zt (Zs (Zr ?_)))
  refine Xm ?_
  refine Xm ?_
  refine Xv rfl (v_indexAddr u49 sz62 (congrArg (fun A => some (Value.slice A gs.length c2)) hA2) rfl (hkl2) rfl) ?_
  refine Xv rfl (v_loadN (vs := flV8 gs[k] (Value.slice A4 gs[k].subs.length c4)) u62 rfl sz62 rfl (fun i hi => at_ro (.head _) trivial (hc2 i hi))) ?_
  refine x_alloc rfl rfl rfl zr62 ?_
  intro p7
  refine x_store0 [] rfl rfl rfl rfl sz62 rfl rfl ?_
  refine Ze (Zt (Zs (Zs (Zr ?_))))
  refine Xf 0 rfl u62 rfl sz9 ?_
  refine Xl rfl u9 rfl (at_ownL (vs := flV8 fs[k] (Value.slice A3 fs[k].subs.length c3)) (.tail _ (.head _)) rfl) ?_
  refine Xf 0 rfl u62 rfl sz9 ?_
  refine Xl rfl u9 rfl (at_ownL (vs := flV8 gs[k] (Value.slice A4 gs[k].subs.length c4)) (.head _) rfl) ?_
  refine Xb rfl (v_sneq rfl rfl) fun b32 hb32 => ?_
  refine Xm ?_
  refine Xi rfl rfl rfl (fun hg0 => by subst hg0; (try simp only [Qy]); exact v_fieldAddr (off' := 1) u62 rfl sz9 (by decide) rfl rfl) ?_
  refine Xi rfl rfl rfl (fun hg0 => by subst hg0; (try simp only [Qy]); exact v_load u9 rfl rfl (at_ownL (vs := flV8 fs[k] (Value.slice A3 fs[k].subs.length c3)) (.tail _ (.head _)) rfl)) ?_
  refine Xi rfl rfl rfl (fun hg0 => by subst hg0; (try simp only [Qy]); exact v_fieldAddr (off' := 1) u62 rfl sz9 (by decide) rfl rfl) ?_
  refine Xi rfl rfl rfl (fun hg0 => by subst hg0; (try simp only [Qy]); exact v_load u9 rfl rfl (at_ownL (vs := flV8 gs[k] (Value.slice A4 gs[k].subs.length c4)) (.head _) rfl)) ?_
  refine Xj rfl rfl rfl (fun hg0 => by subst hg0; (try simp only [Qy]); exact v_sneq rfl rfl) fun b38 hb38 => ?_
  refine Xb rfl (v_or rfl rfl) fun b39 hb39 => ?_
  refine Xm ?_
  refine Xi rfl rfl rfl (fun hg0 => by subst hg0; (try simp only [Qy]); exact v_fieldAddr (off' := 2) u62 rfl sz9 (by decide) rfl rfl) ?_
  refine Xi rfl rfl rfl (fun hg0 => by subst hg0; (try simp only [Qy]); exact v_load u9 rfl rfl (at_ownL (vs := flV8 fs[k] (Value.slice A3 fs[k].subs.length c3)) (.tail _ (.head _)) rfl)) ?_
  refine Xi rfl rfl rfl (fun hg0 => by subst hg0; (try simp only [Qy]); exact v_fieldAddr (off' := 2) u62 rfl sz9 (by decide) rfl rfl) ?_
  refine Xi rfl rfl rfl (fun hg0 => by subst hg0; (try simp only [Qy]); exact v_load u9 rfl rfl (at_ownL (vs := flV8 gs[k] (Value.slice A4 gs[k].subs.length c4)) (.head _) rfl)) ?_
  refine Xj rfl rfl rfl (fun hg0 => by subst hg0; (try simp only [Qy]); exact v_sneq rfl rfl) fun b45 hb45 => ?_
  refine Xb rfl (v_or rfl rfl) fun b46 hb46 => ?_
  refine Xm ?_
  refine Xi rfl rfl rfl (fun hg0 => by subst hg0; (try simp only [Qy]); exact v_fieldAddr (off' := 3) u62 rfl sz60 (by decide) rfl rfl) ?_
  refine Xi rfl rfl rfl (fun hg0 => by subst hg0; (try simp only [Qy]); exact v_load u60 rfl rfl (at_ownL (vs := flV8 fs[k] (Value.slice A3 fs[k].subs.length c3)) (.tail _ (.head _)) rfl)) ?_
  refine Xi rfl rfl rfl (fun hg0 => by subst hg0; (try simp only [Qy]); exact v_len_slice u60 rfl) ?_
  refine Xi rfl rfl rfl (fun hg0 => by subst hg0; (try simp only [Qy]); exact v_fieldAddr (off' := 3) u62 rfl sz60 (by decide) rfl rfl) ?_
  refine Xi rfl rfl rfl (fun hg0 => by subst hg0; (try simp only [Qy]); exact v_load u60 rfl rfl (at_ownL (vs := flV8 gs[k] (Value.slice A4 gs[k].subs.length c4)) (.head _) rfl)) ?_
  refine Xi rfl rfl rfl (fun hg0 => by subst hg0; (try simp only [Qy]); exact v_len_slice u60 rfl) ?_
  refine Xj rfl rfl rfl (fun hg0 => by subst hg0; (try simp only [Qy]); exact v_neq rfl rfl) fun b54 hb54 => ?_
  refine Xb rfl (v_or rfl rfl) fun b55 hb55 => ?_
  refine Ze (Zt ?_)
  refine w_cond rfl (fun hc55 => ?_) fun hc55 => ?_
  ·simp only [hb55, hb54, hb46, hb45, hb39, hb38, hb32, Qz, ne_eq] at hc55
   have hne : ¬fs[k] = gs[k] := fun h => by rw [h] at hc55; simp at hc55
   refine Zs (Zr ?_)
   refine Xa ?_
   refine Ze (Zt (w_ret (t_ret (b_ret (t_ret (t_ret (b_ret (t_ret ?_))))))))
   refine ret1 rfl rfl (fun w' hm => ⟨?_, hm.base (by simp)⟩)
   rw [decide_eq_false (fun h => hne (by subst h; rfl))]
  simp only [hb55, hb54, hb46, hb45, hb39, hb38, hb32, Qz, ne_eq] at hc55
  obtain ⟨⟨⟨e1, e2⟩, e3⟩, e4⟩ : ((fs[k].tag = gs[k].tag ∧ fs[k].ind = gs[k].ind) ∧ fs[k].data = gs[k].data) ∧ fs[k].subs.length = gs[k].subs.length := by simpa [and_assoc, Int.ofNat_inj] using hc55
  refine w_skip (Zt (Zs (Zr ?_)))
  refine Xa ?_
  refine Ze (Zt (w_block ?_))
  refine w_loop (σ := Nat) (fun j => j ≤ fs[k].subs.length ∧ fs[k].subs.take j = gs[k].subs.take j) (fun j => [(0, Value.slice A1 fs.length c1), (1, Value.slice A2 gs.length c2), (5, Vi (k : Nat)), (6, Pt p6), (7, Pt p7), (8, Vi (j : Nat))]) (fun j => [(Bk p7 (flV8 gs[k] (Value.slice A4 gs[k].subs.length c4)) 62), (Bk p6 (flV8 fs[k] (Value.slice A3 fs[k].subs.length c3)) 62)]) (fun j => [(w, fun _ => True)]) (fun j => fs[k].subs.length - j) (0) (⟨Nat.zero_le _, rfl⟩) (l_start Zu (fun _ h => h)) ?_
  rintro j ⟨hj, hsj⟩
  refine w_state ([(0, Value.slice A1 fs.length c1), (1, Value.slice A2 gs.length c2), (5, Vi (k : Nat)), (6, Pt p6), (7, Pt p7), (8, Vi (j : Nat))]) ([(Bk p7 (flV8 gs[k] (Value.slice A4 gs[k].subs.length c4)) 62), (Bk p6 (flV8 fs[k] (Value.slice A3 fs[k].subs.length c3)) 62)]) ([(w, fun _ => True)]) ?_
  refine Zs (Zs (Zr ?_))
  refine Xm ?_
  refine Xf 3 rfl u62 rfl sz60 ?_
  refine Xl rfl u60 rfl (at_ownL (vs := flV8 fs[k] (Value.slice A3 fs[k].subs.length c3)) (.tail _ (.head _)) rfl) ?_
  refine Xv (v := Vi (fs[k].subs.length : Nat)) rfl (v_len_slice u60 rfl) ?_
  refine Xb rfl (v_lss rfl rfl) fun b60 hb60 => ?_
  refine Ze (Zt ?_)
  refine w_cond rfl (fun hc60 => ?_) fun hc60 => ?_
  ·simp only [hb60, Qz, ne_eq] at hc60
   have hjl : j < fs[k].subs.length := by omega
   have hjl2 : j < gs[k].subs.length := by omega
   obtain ⟨b5, o5, hA3, _, hc5⟩ := sb8_at hs1 hjl
   obtain ⟨b6, o6, hA4, _, hc6⟩ := sb8_at hs2 hjl2
   refine w_skip (Zt (Zs (w_block (Zs ?_))))
   refine rg_draw 11 [(true, 0), (true, 1), (true, 2), (true, 3), (true, 4), (true, 5), (true, 6), (true, 7), (true, 8), (true, 9), (true, 10)] Zk Zk ?_
   refine Xf 3 rfl u62 rfl sz60 ?_
   refine Xl rfl u60 rfl (at_ownL (vs := flV8 fs[k] (Value.slice A3 fs[k].subs.length c3)) (.tail _ (.head _)) rfl) ?_
   refine Xm ?_
   refine Xv rfl (v_indexAddr u60 sz67 (congrArg (fun A => some (Value.slice A fs[k].subs.length c3)) hA3) rfl (hjl) rfl) ?_
   refine Xv rfl (v_loadN (vs := sbC fs[k].subs[j]) u67 rfl sz67 rfl (fun i hi => at_ro (.head _) trivial (hc5 i hi))) ?_
   refine Xf 3 rfl u62 rfl sz60 ?_
   refine Xl rfl u60 rfl (at_ownL (vs := flV8 gs[k] (Value.slice A4 gs[k].subs.length c4)) (.head _) rfl) ?_
   refine Xm ?_
   refine Xv rfl (v_indexAddr u60 sz67 (congrArg (fun A => some (Value.slice A gs[k].subs.length c4)) hA4) rfl (hjl2) rfl) ?_
   refine Xv rfl (v_loadN (vs := sbC gs[k].subs[j]) u67 rfl sz67 rfl (fun i hi => at_ro (.head _) trivial (hc6 i hi))) ?_
   refine Xb rfl (v_neA Zk rfl rfl (fun w1 => eqSB w1 fs[k].subs[j] gs[k].subs[j])) fun b73 hb73 => ?_
   refine Ze (Zt ?_)
   refine w_cond rfl (fun hc73 => ?_) fun hc73 => ?_
   ·simp only [hb73, Qz, ne_eq] at hc73
    have hne : ¬fs[k].subs[j] = gs[k].subs[j] := by simpa using hc73
    refine Zs (Zr ?_)
    refine Xa ?_
    refine Ze (Zt (w_ret (b_ret (t_ret (t_ret (b_ret (b_ret (t_ret (t_ret (b_ret (t_ret ?_)))))))))))
    refine ret1 rfl rfl (fun w' hm => ⟨?_, hm.base (by simp)⟩)
    rw [decide_eq_false (fun h => hne (by subst h; rfl))]
   simp only [hb73, Qz, ne_eq] at hc73
   have heq : fs[k].subs[j] = gs[k].subs[j] := by simpa using hc73
   refine w_skip (b_norm (Zt (Zr ?_)))
   refine Xm ?_
   refine Xv rfl (v_addi rfl rfl rfl Zo) ?_
   refine Xa ?_
   refine Ze ?_
   exact l_norm (j + 1) ⟨hjl, by rw [List.take_succ_eq_append_getElem hjl, List.take_succ_eq_append_getElem hjl2, hsj, heq]⟩ (by omega) Zu (fun _ h => h)
  simp only [hb60, Qz, ne_eq] at hc60
  obtain rfl : j = fs[k].subs.length := by omega
  rw [List.take_of_length_le (Nat.le_refl _), List.take_of_length_le (by omega)] at hsj
  have heq := fl_ext e1 e2 e3 hsj
  refine w_exit ?_
  refine t_exit ?_
  refine t_exit ?_
  refine b_hit ?_
  refine b_norm (Zt (Zr ?_))
  refine Xm ?_
  refine Xv rfl (v_addi rfl rfl rfl Zo) ?_
  refine Xa ?_
  refine Ze ?_
  exact l_norm (k + 1) ⟨hkl, by rw [List.take_succ_eq_append_getElem hkl, List.take_succ_eq_append_getElem hkl2, hsa, heq]⟩ (by omega) Zu (fun _ h => h.less (List.nil_sublist _) (fun _ h => h))
 simp only [hb17, Qz, ne_eq] at hc17
 obtain rfl : k = fs.length := by omega
 refine w_exit ?_
 refine t_exit ?_
 refine t_exit ?_
 refine b_hit ?_
 refine Zt (Zs (Zr ?_))
 refine Xa ?_
 refine Ze (Zt (w_ret ?_))
 refine ret1 rfl rfl (fun w' hm => ⟨?_, hm.base (by simp)⟩)
 rw [List.take_of_length_le (Nat.le_refl _), List.take_of_length_le (by omega)] at hsa; rw [decide_eq_true hsa]
theorem r_SameR {A1 A2 : Option Addr} {c1 c2 : Nat} {fs gs : List Fl} {D1 D2 : Nat → Prop} (w : World) (hf : sliceRd tyFl D1 w (.slice A1 fs.length c1) fs) (hg : sliceRd tyFl D2 w (.slice A2 gs.length c2) gs) (kd lv : Int) :
  Calls Tryz.prog 27 #[.agg #[.int .u8 kd, .int .u8 lv, .slice A1 fs.length c1], .agg #[.int .u8 kd, .int .u8 lv, .slice A2 gs.length c2]] w fun e w' => e = .returned (.bool (decide (fs = gs))) ∧ Later w w' := by
 refine enter (vs := [.agg #[.int .u8 kd, .int .u8 lv, .slice A1 fs.length c1], .agg #[.int .u8 kd, .int .u8 lv, .slice A2 gs.length c2]]) Tryz.func27 rfl Tryz.ntmps27 rfl ?_
 refine Zs (Zr ?_)
 refine x_box rfl rfl rfl rfl ?_
 intro p2
 refine x_box rfl rfl rfl rfl ?_
 intro p3
 refine Xa ?_
 refine Ze (Zt (Zs (Zr ?_)))
 refine Xf 2 rfl u51 rfl sz49 ?_
 refine Xl rfl u49 rfl (at_ownL (vs := [Value.int .u8 kd, .int .u8 lv, .slice A1 fs.length c1]) (.tail _ (.head _)) rfl) ?_
 refine Xf 2 rfl u51 rfl sz49 ?_
 refine Xl rfl u49 rfl (at_ownL (vs := [Value.int .u8 kd, .int .u8 lv, .slice A2 gs.length c2]) (.head _) rfl) ?_
 refine x_callb rfl rfl rfl Tryz.func57 Zk rfl (fun w1 hw1 => r_SameFl w1 (hf.keep (Kept.later (hw1.base (by simp)))) (hg.keep (Kept.later (hw1.base (by simp))))) fun b10 hb10 => ?_
 refine Xa ?_
 refine Ze (Zt (Zs (Zr ?_)))
 refine Xm ?_
 refine Xm ?_
 refine Xi rfl rfl rfl (fun hg0 => by subst hg0; (try simp only [Qy]); exact v_fieldAddr (off' := 0) u51 rfl sz5 (by decide) rfl rfl) ?_
 refine Xi rfl rfl rfl (fun hg0 => by subst hg0; (try simp only [Qy]); exact v_load u5 rfl rfl (at_ownL (vs := [Value.int .u8 kd, .int .u8 lv, .slice A1 fs.length c1]) (.tail _ (.head _)) rfl)) ?_
 refine Xi rfl rfl rfl (fun hg0 => by subst hg0; (try simp only [Qy]); exact v_fieldAddr (off' := 0) u51 rfl sz5 (by decide) rfl rfl) ?_
 refine Xi rfl rfl rfl (fun hg0 => by subst hg0; (try simp only [Qy]); exact v_load u5 rfl rfl (at_ownL (vs := [Value.int .u8 kd, .int .u8 lv, .slice A2 gs.length c2]) (.head _) rfl)) ?_
 refine Xj rfl rfl rfl (fun hg0 => by subst hg0; (try simp only [Qy]); exact v_eql rfl rfl) fun b17 hb17 => ?_
 refine Xb rfl (v_and rfl rfl) fun b18 hb18 => ?_
 refine Xm ?_
 refine Xi rfl rfl rfl (fun hg0 => by subst hg0; (try simp only [Qy]); exact v_fieldAddr (off' := 1) u51 rfl sz5 (by decide) rfl rfl) ?_
 refine Xi rfl rfl rfl (fun hg0 => by subst hg0; (try simp only [Qy]); exact v_load u5 rfl rfl (at_ownL (vs := [Value.int .u8 kd, .int .u8 lv, .slice A1 fs.length c1]) (.tail _ (.head _)) rfl)) ?_
 refine Xi rfl rfl rfl (fun hg0 => by subst hg0; (try simp only [Qy]); exact v_fieldAddr (off' := 1) u51 rfl sz5 (by decide) rfl rfl) ?_
 refine Xi rfl rfl rfl (fun hg0 => by subst hg0; (try simp only [Qy]); exact v_load u5 rfl rfl (at_ownL (vs := [Value.int .u8 kd, .int .u8 lv, .slice A2 gs.length c2]) (.head _) rfl)) ?_
 refine Xj rfl rfl rfl (fun hg0 => by subst hg0; (try simp only [Qy]); exact v_eql rfl rfl) fun b24 hb24 => ?_
 refine Xb rfl (v_and rfl rfl) fun b25 hb25 => ?_
 refine Xa ?_
 refine Ze (Zt (w_ret ?_))
 exact ret1 rfl rfl (fun w' hm => ⟨by rw [show b25 = decide (fs = gs) from by simp [hb25, hb24, hb18, hb17, hb10]], hm.base (by simp)⟩)
end Go.Proofs.YtnflcekodobdlaaGreatDoor

namespace Go.Proofs.YtnflcekodobdlaaGreatDoor
open Go.RowKit Go.PK
attribute [local irreducible] WX
theorem n_Find (w : World) (t : ByteArray) (ht : t.size ≤ 4000000) (hL : LD w) :
  Calls Tryz.prog 19 #[.pointer none, .string t] w fun e w' => e = .returned (.tuple #[Vi 0, .bool false]) ∧ Later w w' := by
 refine enter (vs := [.pointer none, .string t]) Tryz.func19 rfl Tryz.ntmps19 rfl ?_
 refine Zs (Zr ?_)
 refine Xa ?_
 refine Xa ?_
 refine Ze (Zt (Zs (Zr ?_)))
 refine Xm ?_
 refine x_callv rfl rfl rfl Tryz.func49 Zk rfl (fun w1 hw1 => k_Fold t w1 ht (hL.later (hw1.base (by simp)))) ?_
 refine Xa ?_
 refine Ze (Zt (Zs (Zs (Zr ?_))))
 refine Xm ?_
 refine Xb rfl (v_pnil (o := none) u29 rfl rfl) fun b13 hb13 => ?_
 obtain rfl : b13 = true := hb13
 refine Xm ?_
 refine x_no rfl rfl rfl rfl rfl ?_
 refine x_no rfl rfl rfl rfl rfl ?_
 refine Xb rfl (v_or (v := false) rfl rfl) fun b17 hb17 => ?_
 obtain rfl : b17 = true := hb17
 refine Ze (Zt ?_)
 refine w_cond rfl (fun hc17 => ?_) fun hc17 => ?_
 ·skip
  refine Zs (Zr ?_)
  refine Xa ?_
  refine Xa ?_
  refine Ze (Zt (w_ret (t_ret ?_)))
  exact ret2 rfl rfl rfl (fun w' hm => ⟨rfl, hm.base (by simp)⟩)
 cases hc17
theorem n_Resolve (w : World) (h : Int) (t : ByteArray) :
  Calls Tryz.prog 18 #[.pointer none, Vi h, .string t] w fun e w' => e = .returned (.tuple #[Vi 0, .bool false]) ∧ Later w w' := by
 refine enter (vs := [.pointer none, Vi h, .string t]) Tryz.func18 rfl Tryz.ntmps18 rfl ?_
 refine Zs (Zr ?_)
 refine Xa ?_
 refine Xa ?_
 refine Ze (Zt (Zs (Zs (Zr ?_))))
 refine Xm ?_
 refine Xb rfl (v_pnil (o := none) u29 rfl rfl) fun b14 hb14 => ?_
 obtain rfl : b14 = true := hb14
 refine Ze (Zt ?_)
 refine w_cond rfl (fun hc14 => ?_) fun hc14 => ?_
 ·skip
  refine Zs (Zr ?_)
  refine Xa ?_
  refine Xa ?_
  refine Ze (Zt (w_ret (t_ret ?_)))
  exact ret2 rfl rfl rfl (fun w' hm => ⟨rfl, hm.base (by simp)⟩)
 cases hc14
theorem n_Name (w : World) (h : Int) :
  Calls Tryz.prog 31 #[.pointer none, Vi h] w fun e w' => e = .returned (.tuple #[.string ⟨#[]⟩, .bool false]) ∧ Later w w' := by
 refine enter (vs := [.pointer none, Vi h]) Tryz.func31 rfl Tryz.ntmps31 rfl ?_
 refine Zs (Zr ?_)
 refine Xa ?_
 refine Xa ?_
 refine Ze (Zt (Zs (Zs (Zr ?_))))
 refine Xm ?_
 refine Xb rfl (v_pnil (o := none) u29 rfl rfl) fun b9 hb9 => ?_
 obtain rfl : b9 = true := hb9
 refine Ze (Zt ?_)
 refine w_cond rfl (fun hc9 => ?_) fun hc9 => ?_
 ·skip
  refine Zs (Zr ?_)
  refine Xa ?_
  refine Xa ?_
  refine Ze (Zt (w_ret (t_ret ?_)))
  exact ret2 rfl rfl rfl (fun w' hm => ⟨rfl, hm.base (by simp)⟩)
 cases hc9
theorem n_Encode (w : World) :
  Calls Tryz.prog 35 #[.pointer none] w fun e w' => e = .returned (.string ⟨#[]⟩) ∧ Later w w' := by
 refine enter (vs := [.pointer none]) Tryz.func35 rfl Tryz.ntmps35 rfl ?_
 refine Zs (Zr ?_)
 refine Xa ?_
 refine Ze (Zt (Zs (Zs (Zr ?_))))
 refine Xm ?_
 refine Xb rfl (v_pnil (o := none) u29 rfl rfl) fun b7 hb7 => ?_
 obtain rfl : b7 = true := hb7
 refine Ze (Zt ?_)
 refine w_cond rfl (fun hc7 => ?_) fun hc7 => ?_
 ·skip
  refine Zs (Zr ?_)
  refine Xa ?_
  refine Ze (Zt (w_ret (t_ret ?_)))
  exact ret1 rfl rfl (fun w' hm => ⟨rfl, hm.base (by simp)⟩)
 cases hc7
theorem n_Refused (w : World) :
  Calls Tryz.prog 20 #[.pointer none] w fun e w' => e = .returned (.slice none 0 0) ∧ Later w w' := by
 refine enter (vs := [.pointer none]) Tryz.func20 rfl Tryz.ntmps20 rfl ?_
 refine Zs (Zr ?_)
 refine Xa ?_
 refine Ze (Zt (Zs (Zs (Zr ?_))))
 refine Xm ?_
 refine Xb rfl (v_pnil (o := none) u29 rfl rfl) fun b4 hb4 => ?_
 obtain rfl : b4 = true := hb4
 refine Ze (Zt ?_)
 refine w_cond rfl (fun hc4 => ?_) fun hc4 => ?_
 ·skip
  refine Zs (Zr ?_)
  refine Xa ?_
  refine Ze (Zt (w_ret (t_ret ?_)))
  exact ret1 rfl rfl (fun w' hm => ⟨rfl, hm.base (by simp)⟩)
 cases hc4
theorem n_RewriteS (w : World) (kd lv : Int) {A : Option Addr} {n c : Nat} {v : Value} (hv : v = .slice A n c) :
  Calls Tryz.prog 28 #[.pointer none, .agg #[.int .u8 kd, .int .u8 lv, .slice A n c]] w fun e w' => e = .returned (.agg #[.int .u8 kd, .int .u8 lv, .slice A n c]) ∧ Later w w' := by
 subst hv
 refine enter (vs := [.pointer none, .agg #[.int .u8 kd, .int .u8 lv, .slice A n c]]) Tryz.func28 rfl Tryz.ntmps28 rfl ?_
 refine Zs (Zr ?_)
 refine x_box rfl rfl rfl rfl ?_
 intro p3
 refine x_alloc rfl rfl rfl zr51 ?_
 intro p4
 refine Ze (Zt (Zs (Zs (Zr ?_))))
 refine Xm ?_
 refine Xb rfl (v_pnil (o := none) u29 rfl rfl) fun b16 hb16 => ?_
 obtain rfl : b16 = true := hb16
 refine Ze (Zt ?_)
 refine w_cond rfl (fun hc16 => ?_) fun hc16 => ?_
 ·skip
  refine Zs (Zr ?_)
  refine Xv rfl (v_load_blk u51 rfl rfl (by first | exact .head _ | exact .tail _ (.head _) | exact .tail _ (.tail _ (.head _)) | (repeat (first | exact List.Mem.head _ | apply List.Mem.tail | apply List.mem_append_right))) (by exact sz51)) ?_
  refine x_store0 [] rfl rfl rfl rfl sz51 rfl rfl ?_
  refine Ze (Zt (w_ret (t_ret ?_)))
  refine retc (cs := #[.int .u8 kd, .int .u8 lv, .slice A n c]) (e := 51) rfl rfl (.head _) u51 rfl Zk (fun w' hm => ⟨rfl, hm.base (by simp)⟩)
 cases hc16
theorem n_Take (w : World) (f : FD) :
  Calls Tryz.prog 17 #[.pointer none, Value.agg f.cells.toArray] w fun e w' => e = .returned (Vi 1) ∧ Later w w' := by
 refine enter (vs := [.pointer none, Value.agg f.cells.toArray]) Tryz.func17 rfl Tryz.ntmps17 rfl ?_
 refine Zs (Zr ?_)
 refine x_box rfl rfl rfl rfl ?_
 intro p3
 refine Xa ?_
 refine Ze (Zt (Zs (Zs (Zr ?_))))
 refine Xm ?_
 refine Xb rfl (v_pnil (o := none) u29 rfl rfl) fun b8 hb8 => ?_
 obtain rfl : b8 = true := hb8
 refine Xm ?_
 refine x_no rfl rfl rfl rfl rfl ?_
 refine x_no rfl rfl rfl rfl rfl ?_
 refine x_no rfl rfl rfl rfl rfl ?_
 refine Xb rfl (v_or (v := false) rfl rfl) fun b13 hb13 => ?_
 obtain rfl : b13 = true := hb13
 refine Ze (Zt ?_)
 refine w_cond rfl (fun hc13 => ?_) fun hc13 => ?_
 ·skip
  refine Zs (Zr ?_)
  refine Xa ?_
  refine Ze (Zt (w_ret (t_ret ?_)))
  exact ret1 rfl rfl (fun w' hm => ⟨rfl, hm.base (by simp)⟩)
 cases hc13
theorem rec_rd {fs : List Fl} {es : List FE} {C : RowS} {own : List (Nat × Obj)} {ro : List Snap} {w w0 : World} (h : RecW fs es C) (hok : ∀ f ∈ fs, okFl f) (hm : Mem w own ro) (hro : (w0, fun _ => True) ∈ ro) (hin : ∀ q ∈ rowO 62 C ++ EOs 67 es, q ∈ own) : sliceRd tyFl (fun _ => True) w (rowV C es.length) fs := by
 rw [← h.fs]
 exact fe_rd (TF := 62) (T := 67) hm hro h.row (fun e he => ⟨.inr (h.ok e he), hok _ (by rw [← h.fs]; exact List.mem_map_of_mem he)⟩) (fun p hp => hin p (List.mem_append_left _ hp)) (fun e he p hp => hin p (List.mem_append_right _ (List.mem_flatMap.2 ⟨e, he, hp⟩))) (fun _ _ _ => trivial) (fun _ _ _ _ => trivial) (fun _ _ => trivial)
theorem r_SameRv {fs gs : List Fl} {D1 D2 : Nat → Prop} {v1 v2 : Value} (w : World) (hf : sliceRd tyFl D1 w v1 fs) (hg : sliceRd tyFl D2 w v2 gs) (kd lv : Int) : Calls Tryz.prog 27 #[.agg #[.int .u8 kd, .int .u8 lv, v1], .agg #[.int .u8 kd, .int .u8 lv, v2]] w fun e w' => e = .returned (.bool (decide (fs = gs))) ∧ Later w w' := by
 obtain ⟨A1, c1, rfl, _⟩ := id hf
 obtain ⟨A2, c2, rfl, _⟩ := id hg
 exact r_SameR w hf hg kd lv
theorem rowV_sl (C : RowS) (n : Nat) : ∃ A c, rowV C n = .slice A n c := by cases C <;> exact ⟨_, _, rfl⟩
theorem n_Rewrite (w : World) (kd lv : Int) (C : RowS) (n : Nat) : Calls Tryz.prog 28 #[.pointer none, .agg #[.int .u8 kd, .int .u8 lv, rowV C n]] w fun e w' => e = .returned (.agg #[.int .u8 kd, .int .u8 lv, rowV C n]) ∧ Later w w' := by
 obtain ⟨A, c, he⟩ := rowV_sl C n
 rw [he]
 exact n_RewriteS w kd lv rfl
set_option maxHeartbeats 4000000 in
theorem lawNone {A1 : Option Addr} {c1 : Nat} {gs : List (List Int)} {A0 : Option Addr} {c0 : Nat} {qs : List (List Int)} (ti : Int) (w : World) (hti : in64 ti) (hg : sliceRd (tyArr (tyK .i64) 3) (fun _ => True) w (.slice A1 gs.length c1) gs) (hq : sliceRd (tyArr (tyK .i64) 4) (fun _ => True) w (.slice A0 qs.length c0) qs) (hL : LD w) :
  Calls Tryz.prog 13 #[Vi ti, .slice A1 gs.length c1, .slice A0 qs.length c0] w fun e w' => e = .returned (.bool (true)) ∧ Later w w' := by
 have hok : ∀ f ∈ (rqF (titN ti) gs), okFl f := fun f hf => (rqF_ok (titN ti) (titN_sz ti) gs f hf).2.1
 refine enter (vs := [Vi ti, .slice A1 gs.length c1, .slice A0 qs.length c0]) Tryz.func13 rfl Tryz.ntmps13 rfl ?_
 refine Zs (Zr ?_)
 refine Xa ?_
 refine Ze (Zt (Zs (Zr ?_)))
 refine x_callb rfl rfl rfl Tryz.func14 Zk rfl (fun w1 hw1 => c_sanity w1 (hL.later (hw1.base (by simp)))) fun b20 hb20 => ?_
 obtain rfl : b20 = true := hb20
 refine Xa ?_
 refine Ze (Zt (Zs (Zr ?_)))
 refine Xa ?_
 refine Ze (Zt (Zs (Zr ?_)))
 refine Xm ?_
 refine x_callv rfl rfl rfl Tryz.func19 Zk rfl (fun w1 hw1 => n_Find w1 _ (by decide +kernel) (hL.later (hw1.base (by simp)))) ?_
 refine Xm ?_
 refine Xe ?_
 refine Xb rfl (v_extract rfl rfl) fun b25 hb25 => ?_
 refine Xa ?_
 refine Xa ?_
 refine Ze (Zt (Zs (Zr ?_)))
 refine Xm ?_
 refine x_callv rfl rfl rfl Tryz.func18 Zk rfl (fun w1 hw1 => n_Resolve w1 1 _) ?_
 refine Xm ?_
 refine Xe ?_
 refine Xb rfl (v_extract rfl rfl) fun b30 hb30 => ?_
 refine Xa ?_
 refine Xa ?_
 refine Ze (Zt (Zs (Zr ?_)))
 refine Xm ?_
 refine x_callv rfl rfl rfl Tryz.func31 Zk rfl (fun w1 hw1 => n_Name w1 1) ?_
 refine Xm ?_
 refine Xe ?_
 refine Xb rfl (v_extract rfl rfl) fun b35 hb35 => ?_
 refine Xa ?_
 refine Xa ?_
 refine Ze (Zt (Zs (Zr ?_)))
 refine Xm ?_
 refine Xm ?_
 refine x_own (τ := List FE × RowS) (fun z => .agg #[.int .u8 97, .int .u8 109, rowV z.2 z.1.length]) (fun z => RecW (rqF (titN ti) gs) z.1 z.2) (fun z => rowO 62 z.2 ++ EOs 67 z.1) rfl rfl rfl Tryz.func26 Zk rfl (fun w1 hw1 => (r_Record ti w1 hti (hg.keep (Kept.later (hw1.base (by simp))))).mono fun e w2 ⟨es, C, h1, h2, h3⟩ => ⟨(es, C), h1, h3.base (by simp), h2, hw1.join h3⟩) ?_
 rintro ⟨es, C⟩ hW
 obtain ⟨AC, cC, hCV⟩ := rowV_sl C es.length
 refine x_alloc rfl rfl rfl zr51 ?_
 intro p15
 refine x_store0 [] rfl rfl rfl rfl sz51 rfl rfl ?_
 refine Ze (Zt (Zs ?_))
 refine rg_draw 37 [(true, 0), (true, 1), (true, 2), (true, 3), (true, 4), (true, 5), (true, 6), (true, 7), (true, 8), (true, 9), (true, 10), (true, 11), (true, 12), (true, 13), (true, 14), (true, 15), (true, 16), (true, 17), (true, 18), (true, 19), (true, 20), (true, 21), (true, 22), (true, 23), (true, 24), (true, 25), (true, 26), (true, 27), (true, 28), (true, 29), (false, 30), (true, 31), (true, 32), (true, 33), (true, 34), (true, 35), (true, 36)] Zk Zk ?_
 refine Xm ?_
 refine Xb rfl (v_not rfl) fun b40 hb40 => ?_
 obtain rfl : b40 = true := (by rw [hb40, hb25]; rfl)
 refine Xm ?_
 refine x_valg rfl rfl rfl rfl rfl (v_move rfl) ?_
 refine x_boolg rfl rfl rfl rfl rfl (v_not rfl) fun b43 hb43 => ?_
 obtain rfl : b43 = true := (by rw [hb43, hb30]; rfl)
 refine Xb rfl (v_and rfl rfl) fun b44 hb44 => ?_
 obtain rfl : b44 = true := hb44
 refine Xm ?_
 refine x_valg rfl rfl rfl rfl rfl (v_move rfl) ?_
 refine x_boolg rfl rfl rfl rfl rfl (v_not rfl) fun b47 hb47 => ?_
 obtain rfl : b47 = true := (by rw [hb47, hb35]; rfl)
 refine Xb rfl (v_and rfl rfl) fun b48 hb48 => ?_
 obtain rfl : b48 = true := hb48
 refine Xm ?_
 refine x_valg rfl rfl rfl rfl rfl (v_move rfl) ?_
 refine x_callvg (v := Value.string ⟨#[]⟩) rfl rfl rfl rfl rfl Tryz.func35 Zk rfl (fun w1 hw1 => n_Encode w1) ?_
 refine x_boolg rfl rfl rfl rfl rfl (v_seql rfl rfl) fun b52 hb52 => ?_
 obtain rfl : b52 = true := hb52.trans (by decide)
 refine Xb rfl (v_and rfl rfl) fun b53 hb53 => ?_
 obtain rfl : b53 = true := hb53
 refine Xm ?_
 refine x_valg rfl rfl rfl rfl rfl (v_move rfl) ?_
 refine x_callvg (v := Value.slice none 0 0) rfl rfl rfl rfl rfl Tryz.func20 Zk rfl (fun w1 hw1 => n_Refused w1) ?_
 refine x_valg (v := Vi (0 : Nat)) rfl rfl rfl rfl rfl (v_len_slice u24 rfl) ?_
 refine x_boolg rfl rfl rfl rfl rfl (v_eql rfl rfl) fun b58 hb58 => ?_
 obtain rfl : b58 = true := hb58.trans (by decide)
 refine Xb rfl (v_and rfl rfl) fun b59 hb59 => ?_
 obtain rfl : b59 = true := hb59
 refine Xm ?_
 refine x_valg rfl rfl rfl rfl rfl (v_move rfl) ?_
 refine x_valg (v := Value.agg #[.int .u8 97, .int .u8 109, rowV C es.length]) rfl rfl rfl rfl rfl (v_load_blk u51 rfl rfl (.head _) (by exact sz51)) ?_
 refine x_callvg (v := Value.agg #[.int .u8 97, .int .u8 109, rowV C es.length]) rfl rfl rfl rfl rfl Tryz.func28 Zk rfl (fun w1 hw1 => n_Rewrite w1 97 109 C es.length) ?_
 refine x_valg (v := Value.agg #[.int .u8 97, .int .u8 109, rowV C es.length]) rfl rfl rfl rfl rfl (v_load_blk u51 rfl rfl (.head _) (by exact sz51)) ?_
 refine x_callbg rfl rfl rfl rfl rfl Tryz.func27 Zk rfl (fun w1 hw1 => r_SameRv w1 (rec_rd hW hok hw1 (.head _) (fun q hq => .tail _ hq)) (rec_rd hW hok hw1 (.head _) (fun q hq => .tail _ hq)) 97 109) fun b65 hb65 => ?_
 obtain rfl : b65 = true := hb65.trans (decide_eq_true rfl)
 refine Xb rfl (v_and rfl rfl) fun b66 hb66 => ?_
 obtain rfl : b66 = true := hb66
 refine Xm ?_
 refine x_valg rfl rfl rfl rfl rfl (v_move rfl) ?_
 refine x_owng (τ := RowS) (fun R => rowV R 6) (fun R => rowOK 6 R exF.length (fdsC exF)) (fun R => rowO 28 R ++ ((p15, Obj.cells #[Value.int .u8 97, .int .u8 109, rowV C es.length] 51) :: (rowO 62 C ++ EOs 67 es))) rfl rfl rfl rfl rfl Tryz.func38 Zk rfl (fun w1 hw1 => (c_ex w1).mono fun e w2 ⟨R, h1, h2, h3⟩ => ⟨R, h1, h3.base (by simp), h2, Mem.join2 hw1 h3⟩) fun R0 hR0 => ?_
 obtain ⟨g0, cs0, c0, hRg0, hcp0, hcl0⟩ := fd_cell hR0 (k := 0) (by decide)
 refine x_valg rfl rfl rfl rfl rfl (v_indexAddr (j := 0) u24 sz28 (congrArg (fun R => some (rowV R 6)) hRg0) rfl (by decide) rfl) ?_
 refine x_valg rfl rfl rfl rfl rfl (v_loadN (vs := exF[0].cells) u28 rfl sz28 rfl (fun i hi => at_ownL (vs := cs0) (List.mem_append_left _ (by rw [hRg0]; exact .head _)) ((hcl0 i hi).trans (List.getElem?_eq_getElem hi)))) ?_
 refine x_callvg (v := Vi 1) rfl rfl rfl rfl rfl Tryz.func17 Zk rfl (fun w1 hw1 => n_Take w1 exF[0]) ?_
 refine x_boolg rfl rfl rfl rfl rfl (v_eql rfl rfl) fun b73 hb73 => ?_
 obtain rfl : b73 = true := hb73.trans (by decide)
 refine Xb rfl (v_and rfl rfl) fun b74 hb74 => ?_
 obtain rfl : b74 = true := hb74
 refine Xa ?_
 refine Ze (Zt (Zs (Zr ?_)))
 refine Xv rfl (v_buildL (places := [(0, 1), (1, 1)]) u78 zr78 Zk rfl rfl) ?_
 refine x_box rfl rfl rfl rfl ?_
 intro p76
 refine Xa ?_
 refine Ze (Zt (Zs (Zr ?_)))
 refine Xm ?_
 refine x_own (τ := RowS) (fun R => rowV R (feedsF qs).length) (fun R => rowOK 6 R (feedsF qs).length (fdsC (feedsF qs))) (fun R => rowO 28 R ++ FO ⟨p76, none, none⟩ []) rfl rfl rfl Tryz.func23 Zk rfl (fun w1 hw1 => (r_Feeds w1 (hq.keep (Kept.later (hw1.base (by simp))))).mono fun e w2 ⟨R, h1, h2, h3⟩ => ⟨R, h1, h3.base (by simp), h2, Mem.join2 ((hw1.less ((List.nil_sublist _).cons_cons _) (fun _ h => h)).to rfl) h3⟩) fun R hR => ?_
 refine Xa ?_
 refine Ze (Zt (Zs (Zs (Zr ?_))))
 refine Xa ?_
 refine Ze (Zt (w_block ?_))
 refine w_loop (σ := Nat × FM8) (fun z => z.1 ≤ (feedsF qs).length ∧ FOK z.2 (takeAll ((feedsF qs).take z.1)) ∧ z.2.pf = p76) (fun z => [(7, Value.bool true), (16, Value.bool true), (17, Pt p76), (18, rowV R (feedsF qs).length), (19, Vi (z.1 : Nat))]) (fun z => FO z.2 (takeAll ((feedsF qs).take z.1)) ++ rowO 28 R) (fun z => [(w, fun _ => True)]) (fun z => (feedsF qs).length - z.1) ((0, ⟨p76, none, none⟩)) (⟨Nat.zero_le _, FOK.new p76, rfl⟩) (l_start Zu (fun w1 h => (h.perm List.perm_append_comm).to rfl)) ?_
 rintro ⟨k, x⟩ ⟨hk, hx, px⟩
 refine w_state ([(7, Value.bool true), (16, Value.bool true), (17, Pt p76), (18, rowV R (feedsF qs).length), (19, Vi (k : Nat))]) (FO x (takeAll ((feedsF qs).take k)) ++ rowO 28 R) ([(w, fun _ => True)]) ?_
 dsimp only at hk hx px
 refine Zs (Zs (Zr ?_))
 refine Xm ?_
 refine Xm ?_
 refine Xv (v := Vi ((feedsF qs).length : Nat)) rfl (v_len_slice u24 rfl) ?_
 refine Xb rfl (v_lss rfl rfl) fun b82 hb82 => ?_
 refine Ze (Zt ?_)
 refine w_cond rfl (fun hc82 => ?_) fun hc82 => ?_
 ·simp only [hb82, Qz, ne_eq] at hc82
  have hkl : k < (feedsF qs).length := by omega
  obtain ⟨gF, csF, cpF, hRg, hcpF, hclF⟩ := fd_cell hR hkl
  have htk : (feedsF qs).take (k + 1) = (feedsF qs).take k ++ [(feedsF qs)[k]] := List.take_succ_eq_append_getElem hkl
  have ht1 : takeAll ((feedsF qs).take (k + 1)) = (takeF (takeAll ((feedsF qs).take k)) (feedsF qs)[k]).2 := by rw [htk, takeAll_snoc]
  refine w_skip (Zt (Zs (w_block (Zr ?_))))
  refine Xm ?_
  refine Xm ?_
  refine Xm ?_
  refine Xv rfl (v_indexAddr u24 sz28 (congrArg (fun R => some (rowV R (feedsF qs).length)) hRg) rfl (hkl) rfl) ?_
  refine Xv rfl (v_loadN (vs := (feedsF qs)[k].cells) u28 rfl sz28 rfl (fun i hi => at_ownL (vs := csF) (List.mem_append_right _ (by rw [hRg]; exact .head _)) (by rw [Nat.zero_add]; exact (hclF i hi).trans (List.getElem?_eq_getElem hi)))) ?_
  refine x_turn (τ := FM8) (fst := #[]) (cap := #[]) (v := Vi (takeF (takeAll ((feedsF qs).take k)) (feedsF qs)[k]).1) (fun y => FOK y (takeF (takeAll ((feedsF qs).take k)) (feedsF qs)[k]).2 ∧ y.pf = p76) (fun y => FO y (takeF (takeAll ((feedsF qs).take k)) (feedsF qs)[k]).2 ++ rowO 28 R) rfl rfl rfl Tryz.func17 Zk rfl (fun w1 hw1 => by
   simp only [Array.empty_append, Array.append_empty]
   have h := k_Take (f := (feedsF qs)[k]) (L := rowO 28 R) hx (fd_in (feedsF_sm _ (List.getElem_mem hkl))) (.head _) hL hw1
   rw [px] at h
   exact h) ?_
  rintro x9 ⟨hx9, px9⟩
  refine Ze (b_norm (Zt (Zr ?_)))
  refine Xm ?_
  refine Xv rfl (v_addi rfl rfl rfl (by have h9 := feedsF_len qs; omega)) ?_
  refine Xa ?_
  refine Ze ?_
  exact l_norm (k + 1, x9) ⟨hkl, by dsimp only; rw [ht1]; exact hx9, px9⟩ (by simp only; omega) Zu (fun w1 h => h.to (by dsimp only; rw [ht1]))
 simp only [hb82, Qz, ne_eq] at hc82
 obtain rfl : k = (feedsF qs).length := by omega
 rw [List.take_of_length_le (Nat.le_refl _)] at hx
 refine x_memW (own' := FO x (takeAll (feedsF qs)) ++ rowO 28 R) (fun w1 h => h.to (by rw [List.take_of_length_le (Nat.le_refl _)])) ?_
 refine w_exit ?_
 refine t_exit ?_
 refine t_exit ?_
 refine b_hit ?_
 refine Zt (Zs (Zr ?_))
 refine Xm ?_
 refine Xm ?_
 refine x_valg rfl rfl rfl rfl rfl (v_move rfl) ?_
 refine Xb rfl (v_and rfl rfl) fun b94 hb94 => ?_
 obtain rfl : b94 = true := hb94
 refine Xm ?_
 refine x_valg rfl rfl rfl rfl rfl (v_move rfl) ?_
 refine x_callvg (v := Value.string (encF8 (takeAll (feedsF qs)))) rfl rfl rfl rfl rfl Tryz.func35 Zk rfl (fun w1 hw1 => k_Encode w1 (R := x.F) (by rw [← px]; exact at_ownL (vs := fmC x (takeAll (feedsF qs)).length) (List.mem_append_left _ (FO_head x (takeAll (feedsF qs)))) rfl w1 hw1) hx.row (fun q hq => hw1.own_at q (List.mem_append_left _ (FO_row x (takeAll (feedsF qs)) q hq))) hx.ok.len (fun q hq => Nat.le_trans (feedsF_sm q (takeAll_sub _ q hq)).size (by omega)) (fun q hq => (hx.sz q hq).imp_right fun h => ⟨h.1, h.2.1, h.2.2.1, h.2.2.2.1⟩)) ?_
 refine x_valg rfl rfl rfl rfl rfl (v_move rfl) ?_
 refine x_turnVg (τ := FM8) (fun y => Pt y.pf) (fun y => FOK y (takeAll (feedsF qs))) (fun y => FO y (takeAll (feedsF qs)) ++ (FO x (takeAll (feedsF qs)) ++ rowO 28 R)) rfl rfl rfl rfl Tryz.func24 Zk rfl (fun w1 hw1 => (c_taken w1 (hw1.rowR hR (fun q hq => List.mem_append_right _ hq)) (by have h9 := feedsF_len qs; omega) (fun f hf => fd_in (feedsF_sm f hf)) (hL.later (hw1.base (by simp)))).mono fun e w2 ⟨y, h1, h2, h3⟩ => ⟨y, h1, h2, Mem.join2 hw1 h3⟩) fun y0 hy0 => ?_
 refine x_callvg (v := Value.string (encF8 (takeAll (feedsF qs)))) rfl rfl rfl rfl rfl Tryz.func35 Zk rfl (fun w1 hw1 => k_Encode w1 (R := y0.F) (at_ownL (vs := fmC y0 (takeAll (feedsF qs)).length) (List.mem_append_left _ (FO_head y0 (takeAll (feedsF qs)))) rfl w1 hw1) hy0.row (fun q hq => hw1.own_at q (List.mem_append_left _ (FO_row y0 (takeAll (feedsF qs)) q hq))) hy0.ok.len (fun q hq => Nat.le_trans (feedsF_sm q (takeAll_sub _ q hq)).size (by omega)) (fun q hq => (hy0.sz q hq).imp_right fun h => ⟨h.1, h.2.1, h.2.2.1, h.2.2.2.1⟩)) ?_
 refine x_boolg rfl rfl rfl rfl rfl (v_seql rfl rfl) fun b101 hb101 => ?_
 obtain rfl : b101 = true := hb101.trans (decide_eq_true rfl)
 refine Xb rfl (v_and rfl rfl) fun b102 hb102 => ?_
 obtain rfl : b102 = true := hb102
 refine Xa ?_
 refine Ze (Zt (w_ret ?_))
 exact ret1 rfl rfl (fun w' hm => ⟨rfl, hm.base (by simp)⟩)
end Go.Proofs.YtnflcekodobdlaaGreatDoor

namespace Go.Proofs.YtnflcekodobdlaaGreatDoor
open Go.RowKit Go.PK
def laidL : List (String × DataW Unit) := [("math/bits.deBruijn32tab", Rows.laid_math_bits_deBruijn32tab), ("math/bits.deBruijn64tab", Rows.laid_math_bits_deBruijn64tab), ("internal/strconv.uint64pow10", Rows.laid_internal_strconv_uint64pow10), ("strconv.ErrRange", Rows.laid_strconv_ErrRange), ("strconv.ErrSyntax", Rows.laid_strconv_ErrSyntax)]
theorem noHandle {W : World} (h : laidMetH Tryz.prog laidL W) : laidMet Tryz.prog laidL W := by
 have h1 := (laidMetH_iff.1 h).1
 rwa [show (laidL.filter fun x => x.2.handleName?.isNone) = laidL from by kernel_rfl] at h1
theorem laid_tab {W : World} (h : laidMet Tryz.prog laidL W) : Lib.TabIs Tryz.prog W "internal/strconv.uint64pow10" .u64 Lib.pow10Tab := by
 have h1 := h.filter fun x => x.1 == "internal/strconv.uint64pow10"
 have e : (laidL.filter fun x => x.1 == "internal/strconv.uint64pow10") = [("internal/strconv.uint64pow10", Lib.tabData .u64 Lib.pow10Tab)] := by kernel_rfl
 rw [e] at h1
 exact Lib.tabIs_of_head (g := 2) (t := 204) (e := 155) (n := 20) Zk Zk Zk Zk Zk Zk h1
theorem star : "*" ++ "errors.errorString" = "*errors.errorString" := by decide
theorem row104 (u : TypeId) (h : Tryz.prog.typeName? 3 u = some "*errors.errorString") : u = 212 :=
 typeName_ptr_named (nm := "errors.errorString") (by rw [star]; kernel_rfl) Zk (by decide) u (by rw [star]; exact h)
theorem laid_syn {W : World} (h : laidMet Tryz.prog laidL W) : ∃ tp p, W.var? Tryz.prog "strconv.ErrSyntax" = some #[.iface tp p] := by
 have h1 := h.filter fun x => x.1 == "strconv.ErrSyntax"
 have e : (laidL.filter fun x => x.1 == "strconv.ErrSyntax") = [("strconv.ErrSyntax", .iface "*errors.errorString" (.ptr (.agg [.lit (.string [105, 110, 118, 97, 108, 105, 100, 32, 115, 121, 110, 116, 97, 120])])))] := by kernel_rfl
 rw [e] at h1
 obtain ⟨a0, s0, hv0, _⟩ := laid_sentinel (g := 0) (ti := 135) (tp := 212) (te := 214) (ts := 9) h1 Zk Zk u135 row104 u212 u214 rfl rfl u9 Zk Zk
 exact ⟨_, _, hv0⟩
theorem laid_rng {W : World} (h : laidMet Tryz.prog laidL W) : ∃ tp p, W.var? Tryz.prog "strconv.ErrRange" = some #[.iface tp p] := by
 have h1 := h.filter fun x => x.1 == "strconv.ErrRange"
 have e : (laidL.filter fun x => x.1 == "strconv.ErrRange") = [("strconv.ErrRange", .iface "*errors.errorString" (.ptr (.agg [.lit (.string [118, 97, 108, 117, 101, 32, 111, 117, 116, 32, 111, 102, 32, 114, 97, 110, 103, 101])])))] := by kernel_rfl
 rw [e] at h1
 obtain ⟨a0, s0, hv0, _⟩ := laid_sentinel (g := 1) (ti := 135) (tp := 212) (te := 214) (ts := 9) h1 Zk Zk u135 row104 u212 u214 rfl rfl u9 Zk Zk
 exact ⟨_, _, hv0⟩
theorem ld_of {W : World} (h : laidMetH Tryz.prog laidL W) (hS : W.ShapedOpen Tryz.prog) : LD W := ⟨laid_tab (noHandle h), Tryz.laysM145.s1_3 W hS, laid_syn (noHandle h), laid_rng (noHandle h)⟩
theorem laid_met (os : Os) (args : Array Value) : laidMet Tryz.prog laidL ((World.laidAll Tryz.prog os laidL).forCall (fun _ _ => 0) ⟨#[], args, []⟩).memory :=
 laidMet_laidAll args Zk Zk
theorem bulk_one {H : Type} (d : DataW H) : 1 ≤ Rows.uptoBulk d := by
 cases d with
 | lit l => cases l <;> simp [Rows.uptoBulk]
 | nil => simp [Rows.uptoBulk]
 | ptr d => simp [Rows.uptoBulk]
 | slice elems spare => simp [Rows.uptoBulk]
 | agg parts => simp [Rows.uptoBulk]
 | iface t d => simp [Rows.uptoBulk]
 | map entries => simp [Rows.uptoBulk]
 | held h => simp [Rows.uptoBulk]
def meas (H : Type) : Meas H := ⟨Rows.uptoBulk, Rows.uptoBulkAll, fun _ => by simp [Rows.uptoBulk], fun _ _ => by simp [Rows.uptoBulk], fun _ => by simp [Rows.uptoBulk], fun _ _ => by simp [Rows.uptoBulkAll], bulk_one⟩
open Go.RowKit Go.PK
attribute [local irreducible] WX
theorem sb_later {ws w : World} {A : Option Addr} {cp : Nat} {xs : List Sb} (h : sliceRd tySb (fun _ => True) ws (.slice A xs.length cp) xs) (hl : Later ws w) {k : Nat} (hk : k < xs.length) : ∃ b o, A = some ⟨b, o, none⟩ ∧ ∀ j (hj : j < (sbC xs[k]).length), w.cell? ⟨b, o + k * 2 + j, none⟩ = some (sbC xs[k])[j] := by
 obtain ⟨b, o, h1, _, h3⟩ := sb8_at h hk
 exact ⟨b, o, h1, fun j hj => (World.cell?_of_block (hl.block _ (cell_lt (p := ⟨b, o + k * 2 + j, none⟩) (h3 j hj)))).trans (h3 j hj)⟩
theorem ab_iff (s : Sb) : (∃ j, j < (⟨#[97, 98]⟩ : ByteArray).size ∧ byteAt ⟨#[97, 98]⟩ j = s.code) ↔ isAB s = true := by
 unfold isAB
 rw [decide_eq_true_eq]
 constructor
 ·rintro ⟨j, hj, h⟩
  have hj : j < 2 := hj
  match j, hj with
  | 0, _ => exact .inl h.symm
  | 1, _ => exact .inr h.symm
 rintro (h | h)
 ·exact ⟨0, by show 0 < 2; decide, h.symm⟩
 exact ⟨1, by show 1 < 2; decide, h.symm⟩
open Classical in
theorem r_Text {A : Option Addr} {c : Nat} {f : Fl} {ws : World} (w : World) (hxs : sliceRd tySb (fun _ => True) ws (.slice A f.subs.length c) f.subs) (hl : Later ws w) (hsl : f.subs.length ≤ 1000) (hsz0 : ∀ s ∈ f.subs, s.text.size ≤ 1000) :
  Calls Tryz.prog 32 #[.agg (flV8 f (.slice A f.subs.length c)).toArray, .string ⟨#[97, 98]⟩] w fun e w' => e = .returned (.string (joinS (txtS f.subs))) ∧ Later w w' := by
 have hsz : ∀ t ∈ txtS f.subs, t.size ≤ 1000 := fun t ht => by
  unfold txtS at ht
  obtain ⟨s, hs, rfl⟩ := List.mem_map.1 ht
  exact hsz0 s (List.mem_filter.1 hs).1
 refine enter (vs := [.agg (flV8 f (.slice A f.subs.length c)).toArray, .string ⟨#[97, 98]⟩]) Tryz.func32 rfl Tryz.ntmps32 rfl ?_
 refine Zs (Zr ?_)
 refine x_box rfl rfl rfl rfl ?_
 intro p2
 refine Xa ?_
 refine Ze (Zt (Zs (Zr ?_)))
 refine Xa ?_
 refine Ze (Zt (Zs (Zs (Zr ?_))))
 refine Xa ?_
 refine Ze (Zt (w_block ?_))
 refine w_loop (σ := Nat × RowS) (fun z => z.1 ≤ f.subs.length ∧ rowOK 1 z.2 (txtS (f.subs.take z.1)).length ((txtS (f.subs.take z.1)).map Value.string)) (fun z => [(1, Value.string ⟨#[97, 98]⟩), (2, Pt p2), (5, rowV z.2 (txtS (f.subs.take z.1)).length), (6, Vi (z.1 : Nat))]) (fun z => (Bk p2 (flV8 f (.slice A f.subs.length c)) 62) :: rowO 9 z.2) (fun z => [(w, fun _ => True)]) (fun z => f.subs.length - z.1) ((0, none)) (⟨Nat.zero_le _, rowOK_nil⟩) (l_start Zu (fun _ h => h)) ?_
 rintro ⟨k, R⟩ ⟨hk, hR⟩
 refine w_state ([(1, Value.string ⟨#[97, 98]⟩), (2, Pt p2), (5, rowV R (txtS (f.subs.take k)).length), (6, Vi (k : Nat))]) ((Bk p2 (flV8 f (.slice A f.subs.length c)) 62) :: rowO 9 R) ([(w, fun _ => True)]) ?_
 dsimp only at hk hR
 have hrl := txtS_len (f.subs.take k)
 rw [List.length_take] at hrl
 refine Zs (Zs (Zr ?_))
 refine Xm ?_
 refine Xf 3 rfl u62 rfl sz60 ?_
 refine Xl rfl u60 rfl (at_ownL (vs := (flV8 f (.slice A f.subs.length c))) (.head _) rfl) ?_
 refine Xv (v := Vi (f.subs.length : Nat)) rfl (v_len_slice u60 rfl) ?_
 refine Xb rfl (v_lss rfl rfl) fun b12 hb12 => ?_
 refine Ze (Zt ?_)
 refine w_cond rfl (fun hc12 => ?_) fun hc12 => ?_
 ·simp only [hb12, Qz, ne_eq] at hc12
  have hkl : k < f.subs.length := by omega
  obtain ⟨b1, o1, hA1, hc1⟩ := sb_later hxs hl hkl
  refine w_skip (Zt (Zs (w_block (Zs (Zr ?_)))))
  refine Xm ?_
  refine Xf 3 rfl u62 rfl sz60 ?_
  refine Xl rfl u60 rfl (at_ownL (vs := (flV8 f (.slice A f.subs.length c))) (.head _) rfl) ?_
  refine Xm ?_
  refine Xv rfl (v_indexAddr u60 sz67 (congrArg (fun A => some (Value.slice A f.subs.length c)) hA1) rfl (hkl) rfl) ?_
  refine Xf _ rfl u67 rfl sz5 ?_
  refine Xl rfl u5 rfl (at_ro (.head _) trivial (v := Value.int .u8 (f.subs[k].code.toNat : Nat)) (hc1 0 (by show 0 < 2; decide))) ?_
  refine x_callb rfl rfl rfl Tryz.func70 Zk rfl (fun w1 hw1 => r_has ⟨#[97, 98]⟩ f.subs[k].code w1 (by decide +kernel)) fun b22 hb22 => ?_
  refine Xa ?_
  refine Ze (Zt (Zs (Zr ?_)))
  refine Xm ?_
  refine Ze (Zt ?_)
  refine w_cond rfl (fun hc23 => ?_) fun hc23 => ?_
  ·simp only [hb22, Qz, ne_eq] at hc23
   have hab : isAB f.subs[k] = true := (ab_iff _).1 hc23
   refine Zr ?_
   refine Xm ?_
   refine Xf 3 rfl u62 rfl sz60 ?_
   refine Xl rfl u60 rfl (at_ownL (vs := (flV8 f (.slice A f.subs.length c))) (.head _) rfl) ?_
   refine Xm ?_
   refine Xv rfl (v_indexAddr u60 sz67 (congrArg (fun A => some (Value.slice A f.subs.length c)) hA1) rfl (hkl) rfl) ?_
   refine Xf _ rfl u67 rfl sz9 ?_
   refine Xl rfl u9 rfl (at_ro (.head _) trivial (v := Value.string f.subs[k].text) (hc1 1 (by show 1 < 2; decide))) ?_
   refine x_buildSliceL (cs := [Value.string f.subs[k].text]) rfl rfl rfl u38 sz9 zr9 rfl rfl rfl ?_
   intro p31
   refine x_append (e := 9) ((Bk p31 [Value.string f.subs[k].text] 9) :: (Bk p2 (flV8 f (.slice A f.subs.length c)) 62) :: []) (l2 := []) R (len := (txtS (f.subs.take k)).length) (xs := (txtS (f.subs.take k)).map Value.string) rfl rfl rfl rfl (by simp) hR u38 ap9 rfl rfl (m := 1) (news := [Value.string f.subs[k].text]) (fun i9 hi9 => at_ownL (vs := [Value.string f.subs[k].text]) (.head _) (by rw [Nat.zero_add]; exact List.getElem?_eq_getElem hi9)) rfl Zx (by omega) fun R' hR' => ?_
   refine Xa ?_
   refine Ze (b_norm (Zt (Zr ?_)))
   refine Xm ?_
   refine Xv rfl (v_addi rfl rfl rfl Zo) ?_
   refine Xa ?_
   refine Ze ?_
   exact l_norm (k + 1, R') ⟨hkl, by dsimp only; rw [txtS_succ hkl, if_pos hab, List.length_append, List.map_append]; exact hR'⟩ (by simp only; omega) (by dsimp only; rw [txtS_succ hkl, if_pos hab, List.length_append]; repeat (first | exact Sub.nil | refine Sub.cons rfl ?_)) (fun w1 h => (h.less (List.sublist_cons_self _ _) (fun _ h => h)).to (by simp))
  simp only [hb22, Qz, ne_eq] at hc23
  have hab : ¬isAB f.subs[k] = true := fun h => hc23 ((ab_iff _).2 h)
  refine w_skip (b_norm (Zt (Zr ?_)))
  refine Xm ?_
  refine Xv rfl (v_addi rfl rfl rfl Zo) ?_
  refine Xa ?_
  refine Ze ?_
  exact l_norm (k + 1, R) ⟨hkl, by dsimp only; rw [txtS_succ hkl, if_neg hab]; exact hR⟩ (by simp only; omega) (by dsimp only; rw [txtS_succ hkl, if_neg hab]; repeat (first | exact Sub.nil | refine Sub.cons rfl ?_)) (fun w1 h => h)
 simp only [hb12, Qz, ne_eq] at hc12
 obtain rfl : k = f.subs.length := by omega
 rw [List.take_of_length_le (Nat.le_refl _)] at hR hrl ⊢
 refine w_exit ?_
 refine t_exit ?_
 refine t_exit ?_
 refine b_hit ?_
 refine Zt (Zs (Zr ?_))
 refine Xm ?_
 refine x_callv rfl rfl rfl Tryz.func53 Zk rfl (fun w1 hw1 => r_Join w1 (hw1.rowR (by rw [flat1]; exact hR) (fun q hq => .tail _ hq)) (by omega) (Nat.le_trans (joinS_sz 1000 _ (fun t ht => hsz t ht)) (by omega))) ?_
 refine Xa ?_
 refine Ze (Zt (w_ret ?_))
 refine ret1 rfl rfl (fun w' hm => ⟨?_, hm.base (by simp)⟩)
 rfl
end Go.Proofs.YtnflcekodobdlaaGreatDoor

namespace Go.Proofs.YtnflcekodobdlaaGreatDoor
open Go.RowKit Go.PK
attribute [local irreducible] WX
end Go.Proofs.YtnflcekodobdlaaGreatDoor

namespace Go.Proofs.YtnflcekodobdlaaGreatDoor
open Go.RowKit Go.PK
attribute [local irreducible] WX
theorem flat_kept {D : Nat → Prop} {ws w : World} {A : Option Addr} {cp : Nat} {xs : List Fl} (h : sliceRd tyFl D ws (.slice A xs.length cp) xs) (hl : Kept D (fun _ => True) ws w) {k : Nat} (hk : k < xs.length) : ∃ b o A' c', A = some ⟨b, o, none⟩ ∧ (∀ j (hj : j < (flV8 xs[k] (.slice A' xs[k].subs.length c')).length), w.cell? ⟨b, o + k * 4 + j, none⟩ = some (flV8 xs[k] (.slice A' xs[k].subs.length c'))[j]) ∧ sliceRd tySb D ws (.slice A' xs[k].subs.length c') xs[k].subs ∧ xs[k].ok := by
 obtain ⟨b, o, v, h1, h2, h3, h4, h5⟩ := fl8_at h hk
 obtain ⟨A', c', rfl, _⟩ := id h4
 exact ⟨b, o, A', c', h1, fun j hj => (World.cell?_of_block (hl _ h2 (cell_lt (p := ⟨b, o + k * 4 + j, none⟩) (h3 j hj))).2).trans (h3 j hj), h4, h5⟩
end Go.Proofs.YtnflcekodobdlaaGreatDoor

namespace Go.Proofs.YtnflcekodobdlaaGreatDoor
open Go.RowKit Go.PK
attribute [local irreducible] WX
def titlesL : List ByteArray := ⟨#[]⟩ :: (namesR ++ [⟨#[84, 111, 109, 32, 83, 97, 119, 121, 101, 114]⟩, ⟨#[79, 108, 100, 32, 115, 111, 110, 103, 115]⟩, ⟨#[65, 32, 98, 111, 111, 107, 32, 111, 102, 32, 109, 117, 115, 105, 99]⟩, ⟨#[83, 79, 78, 71, 83, 32, 111, 102, 32, 84, 111, 109]⟩])
theorem titN_in (n : Int) : titN n ∈ titlesL := by
 have h1 : ∀ t ∈ titL, t ∈ titlesL := by
  intro t ht
  simp only [titL, List.mem_cons, List.not_mem_nil, or_false] at ht
  rcases ht with rfl | rfl | rfl | rfl | rfl <;> simp [titlesL]
 unfold titN
 rw [List.getD_eq_getElem?_getD]
 cases h : titL[(n % 5).toNat]? with
 | none => exact .head _
 | some x => exact h1 x (List.mem_of_getElem? h)
theorem titS_txt (l : List Sb) : ∀ a : ByteArray, l.foldl (fun a s => if s.code = 97 ∨ s.code = 98 then a ++ (spcB ++ s.text) else a) a = (txtS l).foldl (fun a t => a ++ (spcB ++ t)) a := by
 induction l with
 | nil => intro a; rfl
 | cons s l ih =>
  intro a
  rw [List.foldl_cons, ih]
  unfold txtS
  by_cases h : s.code = 97 ∨ s.code = 98
  ·rw [if_pos h, List.filter_cons_of_pos (by unfold isAB; exact decide_eq_true h)]; rfl
  rw [if_neg h, List.filter_cons_of_neg (by unfold isAB; rw [decide_eq_false h]; exact Bool.false_ne_true)]
theorem words_of {l : List Sb} (h : txtS l = [] ∨ ∃ t ∈ titlesL, txtS l = [t] ∨ txtS l = [t, t]) : wordsP (titS l) = wordsP (joinS (txtS l)) := by
 have e : titS l = (txtS l).foldl (fun a t => a ++ (spcB ++ t)) ⟨#[]⟩ := titS_txt l _
 rw [e]
 rcases h with h | ⟨t, ht, h | h⟩
 ·rw [h]; rfl
 ·have h2 := List.all_eq_true.1 words_one t ht
  rw [Bool.and_eq_true] at h2
  rw [h]
  exact of_decide_eq_true h2.1
 have h2 := List.all_eq_true.1 words_one t ht
 rw [Bool.and_eq_true] at h2
 rw [h]
 exact of_decide_eq_true h2.2
theorem txtS_app (a c : List Sb) : txtS (a ++ c) = txtS a ++ txtS c := by unfold txtS; rw [List.filter_append, List.map_append]
theorem txtS_one {s : Sb} (h : s.code = 100 ∨ s.code = 48) : txtS [s] = [] := by
 unfold txtS
 rw [List.filter_cons_of_neg (by unfold isAB; rcases h with h | h <;> (rw [h]; decide))]
 rfl
theorem rqA_txt (q1 q2 : Int) : txtS (rqA q1 q2) = [] ∨ ∃ t ∈ titlesL, txtS (rqA q1 q2) = [t] := by
 unfold rqA
 split
 ·refine .inr ⟨_, ?_, rfl⟩
  show namesR.getD _ _ ∈ titlesL
  rw [List.getD_eq_getElem?_getD]
  cases h : namesR[(q2 % 8).toNat]? with
  | none => exact .head _
  | some x => exact .tail _ (List.mem_append_left _ (List.mem_of_getElem? h))
 exact .inl rfl
theorem rqD_txt (q1 q2 : Int) : txtS (rqD q1 q2) = [] ∨ ∃ t ∈ titlesL, txtS (rqD q1 q2) = [t] ∨ txtS (rqD q1 q2) = [t, t] := by
 have hB : txtS (rqB q1 q2) = txtS (rqA q1 q2) := by unfold rqB; rw [txtS_app, txtS_one (.inl rfl), List.append_nil]
 have hC : txtS (rqC q1 q2) = txtS (rqA q1 q2) := by
  unfold rqC
  split
  ·rw [txtS_app, txtS_one (.inr rfl), List.append_nil, hB]
  exact hB
 unfold rqD
 split
 ·rw [txtS_app, hC]
  rcases rqA_txt q1 q2 with h | ⟨t, ht, h⟩
  ·rw [h]; exact .inl rfl
  rw [h]; exact .inr ⟨t, ht, .inr rfl⟩
 rw [hC]
 rcases rqA_txt q1 q2 with h | ⟨t, ht, h⟩
 ·exact .inl h
 exact .inr ⟨t, ht, .inl h⟩
theorem rqF_words {tt : ByteArray} (ht : tt ∈ titlesL) (l : List (List Int)) : wordsP (titF (rqF tt l)) = wordsP (ttlR (rqF tt l)) := by
 rw [titF_fst]
 unfold ttlR
 refine words_of ?_
 have h0 := fstF_mem (gs := rqF tt l)
 generalize fstF (rqF tt l) = g at h0 ⊢
 rcases h0 with h | h
 ·unfold rqF rqK at h
  rcases List.mem_append.1 h with h | h
  ·rcases List.mem_cons.1 h with h | h
   ·rw [h]; exact .inl rfl
   obtain ⟨q, _, hq⟩ := List.mem_map.1 h
   rw [← hq]
   exact rqD_txt _ _
  rw [List.mem_singleton.1 h]
  exact .inr ⟨tt, ht, .inl rfl⟩
 rw [h]; exact .inl rfl
theorem rqF_len (tt : ByteArray) (l : List (List Int)) : (rqF tt l).length ≤ 100000 ∧ rqF tt l ≠ [] := by
 unfold rqF
 refine ⟨?_, List.append_ne_nil_of_right_ne_nil _ (List.cons_ne_nil _ _)⟩
 unfold rqK
 rw [List.length_append, List.length_cons, List.length_map, List.length_take]
 show min 12 l.length + 1 + 1 ≤ _
 omega
theorem rec_fix {fs : List Fl} {es : List FE} {C : RowS} {own' : List (Nat × Obj)} {ro : List Snap} {w w0 : World} (h : RecW fs es C) (hok : ∀ f ∈ fs, okFl f) (hm : Mem w ((rowO 62 C ++ EOs 67 es) ++ own') ro) (hro : (w0, fun _ => True) ∈ ro) : sliceRd tyFl (notOwn own') w (rowV C es.length) fs := by
 have hno : ∀ p ∈ rowO 62 C ++ EOs 67 es, notOwn own' p.1 := fun p hp => hm.notIn (.refl _) hp
 rw [← h.fs]
 exact fe_rd (TF := 62) (T := 67) (D := fun _ => True) hm hro h.row (fun e he => ⟨.inr (h.ok e he), hok _ (by rw [← h.fs]; exact List.mem_map_of_mem he)⟩) (fun p hp => List.mem_append_left _ (List.mem_append_left _ hp)) (fun e he p hp => List.mem_append_left _ (List.mem_append_right _ (EO_mem he hp))) (fun k _ hlt p hp he => by have h9 := hm.apart p (List.mem_append_right _ hp) _ hro trivial; simp only at h9; omega) (fun e he p hp => hno p (List.mem_append_right _ (EO_mem he hp))) (fun p hp => hno p (List.mem_append_left _ hp))
theorem seed_id {l : List (List Int)} : ∀ h ∈ (stF (takeAll (feedsF l))).hs, h.id < 1000000000000000000 :=
 idsP_of (p := fun i => i < 1000000000000000000) fun f hf => by
  obtain ⟨_, _, _, _, _, _, _, j8, _⟩ := feedsF_sm f (takeAll_sub _ f hf)
  omega
end Go.Proofs.YtnflcekodobdlaaGreatDoor

namespace Go.Proofs.YtnflcekodobdlaaGreatDoor
open Go.RowKit Go.PK
attribute [local irreducible] WX
end Go.Proofs.YtnflcekodobdlaaGreatDoor
