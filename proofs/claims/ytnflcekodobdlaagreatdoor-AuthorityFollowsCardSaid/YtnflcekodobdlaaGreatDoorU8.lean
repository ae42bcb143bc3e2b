/- Of the proofs of YtnflcekodobdlaaGreatDoor: Gm Gn, put together. -/
import Derived.Test.YtnflcekodobdlaaGreatDoorU7
import Derived.Test.YtnflcekodobdlaaGreatDoorU3
import Derived.Test.YtnflcekodobdlaaGreatDoorU1
import Derived.Test.YtnflcekodobdlaaGreatDoorU2
import Derived.Test.YtnflcekodobdlaaGreatDoorU4
import Derived.Test.YtnflcekodobdlaaGreatDoorU5
import Derived.Test.YtnflcekodobdlaaGreatDoorU6
set_option linter.unusedVariables false
set_option linter.unusedSimpArgs false
set_option maxRecDepth 100000

namespace Go.Proofs.YtnflcekodobdlaaGreatDoor
open Go.RowKit Go.PK
attribute [local irreducible] WX
theorem a1_iff (s : Sb) : (∃ j, j < (⟨#[97]⟩ : ByteArray).size ∧ byteAt ⟨#[97]⟩ j = s.code) ↔ isA1 s = true := by
 unfold isA1
 rw [decide_eq_true_eq]
 constructor
 ·rintro ⟨j, hj, h⟩
  have hj : j < 1 := hj
  match j, hj with
  | 0, _ => exact h.symm
 intro h
 exact ⟨0, by show 0 < 1; decide, h.symm⟩
open Classical in
theorem r_TextA {A : Option Addr} {c : Nat} {f : Fl} {ws : World} (w : World) (hxs : sliceRd tySb (fun _ => True) ws (.slice A f.subs.length c) f.subs) (hl : Later ws w) (hsl : f.subs.length ≤ 1000) (hsz0 : ∀ s ∈ f.subs, s.text.size ≤ 1000) :
  Calls Tryz.prog 32 #[.agg (flV8 f (.slice A f.subs.length c)).toArray, .string ⟨#[97]⟩] w fun e w' => e = .returned (.string (joinS (txtA f.subs))) ∧ Later w w' := by
 have hsz : ∀ t ∈ txtA f.subs, t.size ≤ 1000 := fun t ht => by
  unfold txtA at ht
  obtain ⟨s, hs, rfl⟩ := List.mem_map.1 ht
  exact hsz0 s (List.mem_filter.1 hs).1
 refine enter (vs := [.agg (flV8 f (.slice A f.subs.length c)).toArray, .string ⟨#[97]⟩]) Tryz.func32 rfl Tryz.ntmps32 rfl ?_
 refine Zs (Zr ?_)
 refine x_box rfl rfl rfl rfl ?_
 intro p2
 refine Xa ?_
 refine Ze (Zt (Zs (Zr ?_)))
 refine Xa ?_
 refine Ze (Zt (Zs (Zs (Zr ?_))))
 refine Xa ?_
 refine Ze (Zt (w_block ?_))
 refine w_loop (σ := Nat × RowS) (fun z => z.1 ≤ f.subs.length ∧ rowOK 1 z.2 (txtA (f.subs.take z.1)).length ((txtA (f.subs.take z.1)).map Value.string)) (fun z => [(1, Value.string ⟨#[97]⟩), (2, Pt p2), (5, rowV z.2 (txtA (f.subs.take z.1)).length), (6, Vi (z.1 : Nat))]) (fun z => (Bk p2 (flV8 f (.slice A f.subs.length c)) 62) :: rowO 9 z.2) (fun z => [(w, fun _ => True)]) (fun z => f.subs.length - z.1) ((0, none)) (⟨Nat.zero_le _, rowOK_nil⟩) (l_start Zu (fun _ h => h)) ?_
 rintro ⟨k, R⟩ ⟨hk, hR⟩
 refine w_state ([(1, Value.string ⟨#[97]⟩), (2, Pt p2), (5, rowV R (txtA (f.subs.take k)).length), (6, Vi (k : Nat))]) ((Bk p2 (flV8 f (.slice A f.subs.length c)) 62) :: rowO 9 R) ([(w, fun _ => True)]) ?_
 dsimp only at hk hR
 have hrl := txtA_len (f.subs.take k)
 rw [List.length_take] at hrl
 refine Zs (Zs (Zr ?_))
 refine Xm ?_
 refine Xf 3 rfl u62 rfl sz60 ?_
 refine Xl rfl u60 rfl (at_ownL (vs := (flV8 f (.slice A f.subs.length c))) (.head _) rfl) ?_
 refine Xv (v := Vi (f.subs.length : Nat)) rfl (v_len_slice u60 rfl) ?_
 refine Xb rfl (v_lss rfl rfl) fun b12 hb12 => ?_
 refine Ze (Zt ?_)
 refine w_cond rfl (fun hc12 => ?_) fun hc12 => ?_
 ·simp only [hb12, Qz, ne_eq] at hc12
  have hkl : k < f.subs.length := by omega
  obtain ⟨b1, o1, hA1, hc1⟩ := sb_later hxs hl hkl
  refine w_skip (Zt (Zs (w_block (Zs (Zr ?_)))))
  refine Xm ?_
  refine Xf 3 rfl u62 rfl sz60 ?_
  refine Xl rfl u60 rfl (at_ownL (vs := (flV8 f (.slice A f.subs.length c))) (.head _) rfl) ?_
  refine Xm ?_
  refine Xv rfl (v_indexAddr u60 sz67 (congrArg (fun A => some (Value.slice A f.subs.length c)) hA1) rfl (hkl) rfl) ?_
  refine Xf _ rfl u67 rfl sz5 ?_
  refine Xl rfl u5 rfl (at_ro (.head _) trivial (v := Value.int .u8 (f.subs[k].code.toNat : Nat)) (hc1 0 (by show 0 < 2; decide))) ?_
  refine x_callb rfl rfl rfl Tryz.func70 Zk rfl (fun w1 hw1 => r_has ⟨#[97]⟩ f.subs[k].code w1 (by decide +kernel)) fun b22 hb22 => ?_
  refine Xa ?_
  refine Ze (Zt (Zs (Zr ?_)))
  refine Xm ?_
  refine Ze (Zt ?_)
  refine w_cond rfl (fun hc23 => ?_) fun hc23 => ?_
  ·simp only [hb22, Qz, ne_eq] at hc23
   have hab : isA1 f.subs[k] = true := (a1_iff _).1 hc23
   refine Zr ?_
   refine Xm ?_
   refine Xf 3 rfl u62 rfl sz60 ?_
   refine Xl rfl u60 rfl (at_ownL (vs := (flV8 f (.slice A f.subs.length c))) (.head _) rfl) ?_
   refine Xm ?_
   refine Xv rfl (v_indexAddr u60 sz67 (congrArg (fun A => some (Value.slice A f.subs.length c)) hA1) rfl (hkl) rfl) ?_
   refine Xf _ rfl u67 rfl sz9 ?_
   refine Xl rfl u9 rfl (at_ro (.head _) trivial (v := Value.string f.subs[k].text) (hc1 1 (by show 1 < 2; decide))) ?_
   refine x_buildSliceL (cs := [Value.string f.subs[k].text]) rfl rfl rfl u38 sz9 zr9 rfl rfl rfl ?_
   intro p31
   refine x_append (e := 9) ((Bk p31 [Value.string f.subs[k].text] 9) :: (Bk p2 (flV8 f (.slice A f.subs.length c)) 62) :: []) (l2 := []) R (len := (txtA (f.subs.take k)).length) (xs := (txtA (f.subs.take k)).map Value.string) rfl rfl rfl rfl (by simp) hR u38 ap9 rfl rfl (m := 1) (news := [Value.string f.subs[k].text]) (fun i9 hi9 => at_ownL (vs := [Value.string f.subs[k].text]) (.head _) (by rw [Nat.zero_add]; exact List.getElem?_eq_getElem hi9)) rfl Zx (by omega) fun R' hR' => ?_
   refine Xa ?_
   refine Ze (b_norm (Zt (Zr ?_)))
   refine Xm ?_
   refine Xv rfl (v_addi rfl rfl rfl Zo) ?_
   refine Xa ?_
   refine Ze ?_
   exact l_norm (k + 1, R') ⟨hkl, by dsimp only; rw [txtA_succ hkl, if_pos hab, List.length_append, List.map_append]; exact hR'⟩ (by simp only; omega) (by dsimp only; rw [txtA_succ hkl, if_pos hab, List.length_append]; repeat (first | exact Sub.nil | refine Sub.cons rfl ?_)) (fun w1 h => (h.less (List.sublist_cons_self _ _) (fun _ h => h)).to (by simp))
  simp only [hb22, Qz, ne_eq] at hc23
  have hab : ¬isA1 f.subs[k] = true := fun h => hc23 ((a1_iff _).2 h)
  refine w_skip (b_norm (Zt (Zr ?_)))
  refine Xm ?_
  refine Xv rfl (v_addi rfl rfl rfl Zo) ?_
  refine Xa ?_
  refine Ze ?_
  exact l_norm (k + 1, R) ⟨hkl, by dsimp only; rw [txtA_succ hkl, if_neg hab]; exact hR⟩ (by simp only; omega) (by dsimp only; rw [txtA_succ hkl, if_neg hab]; repeat (first | exact Sub.nil | refine Sub.cons rfl ?_)) (fun w1 h => h)
 simp only [hb12, Qz, ne_eq] at hc12
 obtain rfl : k = f.subs.length := by omega
 rw [List.take_of_length_le (Nat.le_refl _)] at hR hrl ⊢
 refine w_exit ?_
 refine t_exit ?_
 refine t_exit ?_
 refine b_hit ?_
 refine Zt (Zs (Zr ?_))
 refine Xm ?_
 refine x_callv rfl rfl rfl Tryz.func53 Zk rfl (fun w1 hw1 => r_Join w1 (hw1.rowR (by rw [flat1]; exact hR) (fun q hq => .tail _ hq)) (by omega) (Nat.le_trans (joinS_sz 1000 _ (fun t ht => hsz t ht)) (by omega))) ?_
 refine Xa ?_
 refine Ze (Zt (w_ret ?_))
 refine ret1 rfl rfl (fun w' hm => ⟨?_, hm.base (by simp)⟩)
 rfl
theorem r_FirstD {A : Option Addr} {c : Nat} {gs : List Fl} {D : Nat → Prop} {ws : World} (w : World) (hxs : sliceRd tyFl D ws (.slice A gs.length c) gs) (hl : Kept D (fun _ => True) ws w) (kd lv : Int) :
  Calls Tryz.prog 33 #[.agg [Value.int .u8 kd, .int .u8 lv, .slice A gs.length c].toArray, .string ⟨#[50, 52, 53]⟩] w fun e w' => ∃ v' bb, e = .returned (.tuple #[.agg (flV8 (fstF gs) v').toArray, .bool bb]) ∧ sliceRd tySb D ws v' (fstF gs).subs ∧ Later w w' := by
 have hgm : gs.length ≤ 9223372036854775807 := by obtain ⟨_, _, _, _, h2, _⟩ := id hxs; exact h2
 refine enter (vs := [.agg [Value.int .u8 kd, .int .u8 lv, .slice A gs.length c].toArray, .string ⟨#[50, 52, 53]⟩]) Tryz.func33 rfl Tryz.ntmps33 rfl ?_
 refine Zs (Zr ?_)
 refine x_box rfl rfl rfl rfl ?_
 intro p2
 refine x_alloc rfl rfl rfl zr62 ?_
 intro p4
 refine Xa ?_
 refine Ze (Zt (Zs (Zs (Zr ?_))))
 refine Xa ?_
 refine Ze (Zt (w_block ?_))
 refine w_loop (σ := Nat) (fun k => k ≤ gs.length ∧ ∀ j (hj : j < gs.length), j < k → decide (gs[j].tag = tagT) = false) (fun k => [(1, Value.string ⟨#[50, 52, 53]⟩), (2, Pt p2), (4, Pt p4), (6, Vi (k : Nat))]) (fun k => [(Bk p4 [Value.string ⟨#[]⟩, .string ⟨#[]⟩, .string ⟨#[]⟩, .slice none 0 0] 62), (Bk p2 [Value.int .u8 kd, .int .u8 lv, .slice A gs.length c] 51)]) (fun k => [(w, fun _ => True)]) (fun k => gs.length - k) (0) (⟨Nat.zero_le _, by intros; omega⟩) (l_start Zu (fun _ h => h)) ?_
 rintro k ⟨hk, hno⟩
 refine w_state ([(1, Value.string ⟨#[50, 52, 53]⟩), (2, Pt p2), (4, Pt p4), (6, Vi (k : Nat))]) ([(Bk p4 [Value.string ⟨#[]⟩, .string ⟨#[]⟩, .string ⟨#[]⟩, .slice none 0 0] 62), (Bk p2 [Value.int .u8 kd, .int .u8 lv, .slice A gs.length c] 51)]) ([(w, fun _ => True)]) ?_
 refine Zs (Zs (Zr ?_))
 refine Xm ?_
 refine Xf 2 rfl u51 rfl sz49 ?_
 refine Xl rfl u49 rfl (at_ownL (vs := [Value.int .u8 kd, .int .u8 lv, .slice A gs.length c]) (.tail _ (.head _)) rfl) ?_
 refine Xv (v := Vi (gs.length : Nat)) rfl (v_len_slice u49 rfl) ?_
 refine Xb rfl (v_lss rfl rfl) fun b11 hb11 => ?_
 refine Ze (Zt ?_)
 refine w_cond rfl (fun hc11 => ?_) fun hc11 => ?_
 ·simp only [hb11, Qz, ne_eq] at hc11
  have hkl : k < gs.length := by omega
  obtain ⟨b1, o1, A1, c1, hA1, hc1, hs1, _⟩ := flat_kept hxs hl hkl
  refine w_skip (Zt (Zs (w_block (Zs (Zr ?_)))))
  refine Xf 2 rfl u51 rfl sz49 ?_
  refine Xl rfl u49 rfl (at_ownL (vs := [Value.int .u8 kd, .int .u8 lv, .slice A gs.length c]) (.tail _ (.head _)) rfl) ?_
  refine Xm ?_
  refine Xv rfl (v_indexAddr u49 sz62 (congrArg (fun A => some (Value.slice A gs.length c)) hA1) rfl (hkl) rfl) ?_
  refine Xf _ rfl u62 rfl sz9 ?_
  refine Xl rfl u9 rfl (at_ro (.head _) trivial (v := Value.string gs[k].tag) (hc1 0 (by show 0 < 4; decide))) ?_
  refine Xm ?_
  refine Xb rfl (v_seql rfl rfl) fun b21 hb21 => ?_
  refine Ze (Zt ?_)
  refine w_cond rfl (fun hc21 => ?_) fun hc21 => ?_
  ·simp only [hb21, Qz, ne_eq] at hc21
   have hb : gs[k].tag = tagT := hc21
   have hfs := fstF_at hkl hb hno
   refine Zs (Zr ?_)
   refine Xf 2 rfl u51 rfl sz49 ?_
   refine Xl rfl u49 rfl (at_ownL (vs := [Value.int .u8 kd, .int .u8 lv, .slice A gs.length c]) (.tail _ (.head _)) rfl) ?_
   refine Xm ?_
   refine Xv rfl (v_indexAddr u49 sz62 (congrArg (fun A => some (Value.slice A gs.length c)) hA1) rfl (hkl) rfl) ?_
   refine Xv rfl (v_loadN (vs := (flV8 gs[k] (.slice A1 gs[k].subs.length c1))) u62 rfl sz62 rfl (fun i hi => at_ro (.head _) trivial (hc1 i hi))) ?_
   refine x_store0 [] rfl rfl rfl rfl sz62 rfl rfl ?_
   refine Xa ?_
   refine Ze (Zt (w_ret (b_ret (t_ret (t_ret (b_ret (t_ret ?_)))))))
   refine retct (cs := (flV8 gs[k] (.slice A1 gs[k].subs.length c1)).toArray) (e := 62) rfl rfl rfl (.head _) u62 rfl Zk (fun w' hm => ⟨_, _, by rw [hfs], ?_, hm.base (by simp)⟩)
   rw [hfs]; exact hs1
  simp only [hb21, Qz, ne_eq] at hc21
  have hb : decide (gs[k].tag = tagT) = false := decide_eq_false hc21
  refine w_skip (b_norm (Zt (Zr ?_)))
  refine Xm ?_
  refine Xv rfl (v_addi rfl rfl rfl Zo) ?_
  refine Xa ?_
  refine Ze ?_
  exact l_norm (k + 1) ⟨hkl, fun j hj hjk => by rcases Nat.lt_succ_iff_lt_or_eq.1 hjk with h2 | rfl; (· exact hno j hj h2); exact hb⟩ (by omega) Zu (fun _ h => h)
 simp only [hb11, Qz, ne_eq] at hc11
 obtain rfl : k = gs.length := by omega
 have hfs := fstF_no (fun j hj => hno j hj hj)
 refine w_exit ?_
 refine t_exit ?_
 refine t_exit ?_
 refine b_hit ?_
 refine Zt (Zs (Zr ?_))
 refine Xv (v := Value.agg [Value.string ⟨#[]⟩, .string ⟨#[]⟩, .string ⟨#[]⟩, .slice none 0 0].toArray) rfl (v_buildL (cs := [Value.string ⟨#[]⟩, .string ⟨#[]⟩, .string ⟨#[]⟩, .slice none 0 0]) (places := [(0, 1), (1, 1), (2, 1), (3, 1)]) u62 zr62 Zk rfl rfl) ?_
 refine x_store0 [] rfl rfl rfl rfl sz62 rfl rfl ?_
 refine Xa ?_
 refine Ze (Zt (w_ret ?_))
 refine retct (cs := [Value.string ⟨#[]⟩, .string ⟨#[]⟩, .string ⟨#[]⟩, .slice none 0 0].toArray) (e := 62) rfl rfl rfl (.head _) u62 rfl Zk (fun w' hm => ⟨.slice none 0 0, _, by rw [hfs]; rfl, ?_, hm.base (by simp)⟩)
 rw [hfs]
 exact ⟨none, 0, rfl, Nat.zero_le _, Nat.zero_le _, fun h => absurd h (Nat.lt_irrefl _)⟩
end Go.Proofs.YtnflcekodobdlaaGreatDoor

namespace Go.Proofs.YtnflcekodobdlaaGreatDoor
open Go.RowKit Go.PK
attribute [local irreducible] WX
theorem amg_ruled {t : ByteArray} (h : (((t = ⟨#[49, 48, 48]⟩ ∨ t = ⟨#[49, 49, 48]⟩) ∨ t = ⟨#[54, 48, 48]⟩) ∨ t = ⟨#[54, 53, 48]⟩) ∨ t = ⟨#[55, 48, 48]⟩) : amg ruledL t = true := by
 rcases h with (((rfl | rfl) | rfl) | rfl) | rfl <;> decide
theorem rewF_at {hs : List HG} {fs : List Fl} {k : Nat} (h : k < (rewF hs fs).length) (h0 : k < fs.length) : (rewF hs fs)[k] = rewX hs (titF fs) fs[k] := List.getElem_map _
theorem fo_p4 {α : Type} {p : α} {A B : List α} : (p :: (A ++ B)).Perm (A ++ (B ++ [p])) :=
 List.perm_middle.symm.trans (List.Perm.append_left A (List.perm_append_comm (l₁ := [p]) (l₂ := B)))
theorem fo_p2 {α : Type} {p q : α} {A B : List α} : (p :: q :: (A ++ B)).Perm (A ++ (p :: q :: B)) :=
 (List.Perm.cons p List.perm_middle.symm).trans List.perm_middle.symm
set_option maxHeartbeats 4000000 in
theorem lawFollows {A1 : Option Addr} {c1 : Nat} {rs : List (List Int)} {A0 : Option Addr} {c0 : Nat} {qs : List (List Int)} (ti : Int) (w : World) (hti : in64 ti) (hg : sliceRd (tyArr (tyK .i64) 3) (fun _ => True) w (.slice A1 rs.length c1) rs) (hq : sliceRd (tyArr (tyK .i64) 4) (fun _ => True) w (.slice A0 qs.length c0) qs) (hL : LD w) :
  Calls Tryz.prog 8 #[.slice A0 qs.length c0, Vi ti, .slice A1 rs.length c1] w fun e w' => e = .returned (.bool (true)) ∧ Later w w' := by
 have hall := rqF_ok (titN ti) (titN_sz ti) rs
 have hok : ∀ f ∈ (rqF (titN ti) rs), okFl f := fun f hf => (hall f hf).2.1
 have hlen := rqF_len (titN ti) rs
 have hRl : (rewF (stF (takeAll (feedsF qs))).hs (rqF (titN ti) rs)).length = (rqF (titN ti) rs).length := by unfold rewF; rw [List.length_map]
 have hft : (fstF (rqF (titN ti) rs)).subs.length ≤ 1000 ∧ ∀ s ∈ (fstF (rqF (titN ti) rs)).subs, s.text.size ≤ 1000 := by
  rcases fstF_mem (gs := (rqF (titN ti) rs)) with h9 | h9
  ·exact (hall _ h9).1
  rw [h9]; exact ⟨by decide, fun s hs => by cases hs⟩
 have httl : (ttlR (rqF (titN ti) rs)).size ≤ 4000000 := by
  have h9 := joinS_sz 1000 (txtS (fstF (rqF (titN ti) rs)).subs) (fun t ht => by unfold txtS at ht; obtain ⟨s, hs, rfl⟩ := List.mem_map.1 ht; exact hft.2 s (List.mem_filter.1 hs).1)
  have h8 := txtS_len (fstF (rqF (titN ti) rs)).subs
  have h7 : (txtS (fstF (rqF (titN ti) rs)).subs).length * 1001 ≤ 1000 * 1001 := Nat.mul_le_mul_right _ (by omega)
  unfold ttlR
  omega
 have hne5 : (rewF (stF (takeAll (feedsF qs))).hs (rqF (titN ti) rs)) ≠ [] := fun h9 => hlen.2 (List.length_eq_zero_iff.1 (by rw [← hRl, h9]; rfl))
 have hlen5 : (rewF (stF (takeAll (feedsF qs))).hs (rqF (titN ti) rs)).length ≤ 100000 := by omega
 refine enter (vs := [.slice A0 qs.length c0, Vi ti, .slice A1 rs.length c1]) Tryz.func8 rfl Tryz.ntmps8 rfl ?_
 refine Zs (Zr ?_)
 refine Xa ?_
 refine Ze (Zt (Zs (Zr ?_)))
 refine x_callb rfl rfl rfl Tryz.func14 Zk rfl (fun w1 hw1 => c_sanity w1 (hL.later (hw1.base (by simp)))) fun b23 hb23 => ?_
 obtain rfl : b23 = true := hb23
 refine Xa ?_
 refine Ze (Zt (Zs (Zr ?_)))
 refine Xm ?_
 refine x_own (τ := RowS) (fun R => rowV R (feedsF qs).length) (fun R => rowOK 6 R (feedsF qs).length (fdsC (feedsF qs))) (fun R => rowO 28 R) rfl rfl rfl Tryz.func23 Zk rfl (fun w1 hw1 => (r_Feeds w1 (hq.keep (Kept.later (hw1.base (by simp))))).mono fun e w2 ⟨R, h1, h2, h3⟩ => ⟨R, h1, h3.base (by simp), h2, hw1.join h3⟩) fun R hR => ?_
 refine x_own (τ := FM8) (fun x => Pt x.pf) (fun x => FOK x (takeAll (feedsF qs))) (fun x => FO x (takeAll (feedsF qs))) rfl rfl rfl Tryz.func24 Zk rfl (fun w1 hw1 => (c_taken w1 (hw1.rowR hR (fun q hq => hq)) (by have h9 := feedsF_len qs; omega) (fun f hf => fd_in (feedsF_sm f hf)) (hL.later (hw1.base (by simp)))).mono fun e w2 ⟨x, h1, h2, h3⟩ => ⟨x, h1, h3.base (by simp), h2, hw1.join h3⟩) fun x0 hx0 => ?_
 have px0 : x0.pf = x0.pf := rfl
 refine Xa ?_
 refine Ze (Zt (Zs (Zr ?_)))
 refine Xm ?_
 refine Xm ?_
 refine x_own (τ := (List FE × RowS) × (Option Addr × Nat)) (fun z => .agg #[.int .u8 97, .int .u8 109, .slice z.2.1 (rqF (titN ti) rs).length z.2.2]) (fun z => RecW (rqF (titN ti) rs) z.1.1 z.1.2 ∧ rowV z.1.2 z.1.1.length = .slice z.2.1 (rqF (titN ti) rs).length z.2.2) (fun z => (rowO 62 z.1.2 ++ EOs 67 z.1.1) ++ FO x0 (takeAll (feedsF qs))) rfl rfl rfl Tryz.func26 Zk rfl (fun w1 hw1 => (r_Record ti w1 hti (hg.keep (Kept.later (hw1.base (by simp))))).mono fun e w2 ⟨es, C, h1, h2, h3⟩ => by
  obtain ⟨AC, cC, hCV⟩ := rowV_sl C es.length
  have hel : es.length = (rqF (titN ti) rs).length := by have h9 := congrArg List.length h2.fs; rw [List.length_map] at h9; exact h9
  exact ⟨((es, C), (AC, cC)), by rw [h1, hCV, hel], h3.base (by simp), ⟨h2, by rw [hCV, hel]⟩, Mem.join2 hw1 h3⟩) ?_
 rintro ⟨⟨es, C⟩, ⟨AC, cC⟩⟩ ⟨hW, hCV⟩
 refine x_alloc rfl rfl rfl zr51 ?_
 intro p9
 refine x_store0 [] rfl rfl rfl rfl sz51 rfl rfl ?_
 refine Ze (Zt (Zs (Zr ?_)))
 refine Xm ?_
 refine Xv (v := Value.agg ([Value.int .u8 97, .int .u8 109, .slice AC (rqF (titN ti) rs).length cC]).toArray) rfl (v_load_blk u51 rfl rfl (.head _) (by exact sz51)) ?_
 refine x_mem (own' := (rowO 62 C ++ EOs 67 es) ++ (FO x0 (takeAll (feedsF qs)) ++ [(Bk p9 [Value.int .u8 97, .int .u8 109, .slice AC (rqF (titN ti) rs).length cC] 51)])) (fun _ h => h.perm fo_p4) ?_
 refine x_fix (FO x0 (takeAll (feedsF qs)) ++ [(Bk p9 [Value.int .u8 97, .int .u8 109, .slice AC (rqF (titN ti) rs).length cC] 51)]) (List.sublist_append_right _ _) fun w5 hw5 => ?_
 have hg5 := rec_fix hW hok hw5 (.head _)
 rw [hCV] at hg5
 refine x_turn_n (τ := FM8) (fun y v wA wB => (FOK y (takeAll (feedsF qs)) ∧ y.pf = x0.pf) ∧ ∃ v', v = .agg #[.int .u8 97, .int .u8 109, v'] ∧ sliceRd tyFl (notOwn (FO y (takeAll (feedsF qs)) ++ [(Bk p9 [Value.int .u8 97, .int .u8 109, .slice AC (rqF (titN ti) rs).length cC] 51)])) wB v' (rewF (stF (takeAll (feedsF qs))).hs (rqF (titN ti) rs))) (fun y => FO y (takeAll (feedsF qs)) ++ [(Bk p9 [Value.int .u8 97, .int .u8 109, .slice AC (rqF (titN ti) rs).length cC] 51)]) rfl rfl Tryz.func28 Zk rfl (fun w1 hw1 => by
  have h := k_Rewrite (L := [(Bk p9 [Value.int .u8 97, .int .u8 109, .slice AC (rqF (titN ti) rs).length cC] 51)]) (kd := 97) (lv := 109) hx0 seed_id (.head _) hg5 hlen.2 hlen.1 hall (by first | exact .head _ | exact .tail _ (.head _) | exact .tail _ (.tail _ (.head _)) | exact .tail _ (.tail _ (.tail _ (.head _)))) hL hw1
  rw [px0] at h
  exact h.mono fun e w2 ⟨y, v', h1, ⟨h2, h3⟩, h4, h5⟩ => ⟨_, h1, y, ⟨⟨h2, h3⟩, v', rfl, h4⟩, h5⟩) ?_
 rintro v32 x1 wA wB hwA ⟨⟨hx1, px1⟩, v9, rfl, hr9⟩ hwB
 obtain ⟨A9, c9, rfl, _⟩ := id hr9
 have hall5 : ∀ f ∈ (rewF (stF (takeAll (feedsF qs))).hs (rqF (titN ti) rs)), smFl f ∧ okFl f ∧ ∀ s ∈ f.subs, s.code = 48 → s.text.size ≤ 18 := rew_sm (fs_acy' hx0.ok) seed_id (sz_stF fun f hf => Nat.le_trans (feedsF_sm f (takeAll_sub _ f hf)).size (by omega)) (titN_sz ti)
 refine x_alloc rfl rfl rfl zr51 ?_
 intro p10
 refine x_store0 [] rfl rfl rfl rfl sz51 rfl rfl ?_
 refine Ze (Zt (Zs (Zs ?_)))
 refine x_memW (own' := FO x1 (takeAll (feedsF qs)) ++ [(Bk p10 [Value.int .u8 97, .int .u8 109, .slice A9 (rewF (stF (takeAll (feedsF qs))).hs (rqF (titN ti) rs)).length c9] 51), (Bk p9 [Value.int .u8 97, .int .u8 109, .slice AC (rqF (titN ti) rs).length cC] 51)]) (fun w1 h => h.perm List.perm_middle.symm) ?_
 refine rg_inv ([(Bk p10 [Value.int .u8 97, .int .u8 109, .slice A9 (rewF (stF (takeAll (feedsF qs))).hs (rqF (titN ti) rs)).length c9] 51), (Bk p9 [Value.int .u8 97, .int .u8 109, .slice AC (rqF (titN ti) rs).length cC] 51)]) 15 (.flt 0 (.flt 1 (.flt 3 (.gr 2 (.gr 4 (.flt 5 (.flt 6 (.flt 7 (.flt 8 (.flt 9 (.flt 10 (.flt 11 (.flt 12 (.flt 13 (.flt 14 .done)))))))))) .nil) .nil)))) (List.sublist_append_right _ _) Zk Zk ?_
 refine k_val rfl rfl (v_move rfl) ?_
 refine k_val (v := Value.agg ([Value.int .u8 97, .int .u8 109, .slice A9 (rewF (stF (takeAll (feedsF qs))).hs (rqF (titN ti) rs)).length c9]).toArray) rfl rfl (v_load_blk u51 rfl rfl (.head _) (by exact sz51)) ?_
 refine k_val (v := Value.agg ([Value.int .u8 97, .int .u8 109, .slice A9 (rewF (stF (takeAll (feedsF qs))).hs (rqF (titN ti) rs)).length c9]).toArray) rfl rfl (v_load_blk u51 rfl rfl (.head _) (by exact sz51)) ?_
 refine k_gr ?_ k_nil
 refine x_turn_n (τ := FM8) (fun y v wA wB => (FOK y (takeAll (feedsF qs)) ∧ y.pf = x0.pf) ∧ ∃ v', v = .agg #[.int .u8 97, .int .u8 109, v'] ∧ sliceRd tyFl (notOwn (FO y (takeAll (feedsF qs)) ++ [(Bk p10 [Value.int .u8 97, .int .u8 109, .slice A9 (rewF (stF (takeAll (feedsF qs))).hs (rqF (titN ti) rs)).length c9] 51), (Bk p9 [Value.int .u8 97, .int .u8 109, .slice AC (rqF (titN ti) rs).length cC] 51)])) wB v' (rewF (stF (takeAll (feedsF qs))).hs (rqF (titN ti) rs))) (fun y => FO y (takeAll (feedsF qs)) ++ [(Bk p10 [Value.int .u8 97, .int .u8 109, .slice A9 (rewF (stF (takeAll (feedsF qs))).hs (rqF (titN ti) rs)).length c9] 51), (Bk p9 [Value.int .u8 97, .int .u8 109, .slice AC (rqF (titN ti) rs).length cC] 51)]) rfl rfl Tryz.func28 Zk rfl (fun w1 hw1 => by
  have h := k_Rewrite (L := [(Bk p10 [Value.int .u8 97, .int .u8 109, .slice A9 (rewF (stF (takeAll (feedsF qs))).hs (rqF (titN ti) rs)).length c9] 51), (Bk p9 [Value.int .u8 97, .int .u8 109, .slice AC (rqF (titN ti) rs).length cC] 51)]) (kd := 97) (lv := 109) hx1 seed_id (.head _) hr9 hne5 hlen5 hall5 (by first | exact .head _ | exact .tail _ (.head _) | exact .tail _ (.tail _ (.head _)) | exact .tail _ (.tail _ (.tail _ (.head _)))) hL hw1
  rw [px1] at h
  exact h.mono fun e w2 ⟨y, v', h1, ⟨h2, h3⟩, h4, h5⟩ => ⟨_, h1, y, ⟨⟨h2, h3⟩, v', rfl, (by rw [rewF_again (fs_acy' hx0.ok) seed_id] at h4; exact h4)⟩, h5⟩) ?_
 rintro v35 x2 wC wD hwC ⟨⟨hx2, px2⟩, v8, rfl, hr8⟩ hwD
 refine Ze ?_
 refine k_end (List.sublist_append_right _ _) (by intro s hs; first | exact hs | exact List.mem_cons_of_mem _ hs | exact List.mem_cons_of_mem _ (List.mem_cons_of_mem _ hs)) ?_
 refine k_gr ?_ k_nil
 refine x_callb rfl rfl rfl Tryz.func27 Zk rfl (fun w1 hw1 => r_SameRv w1 (hr8.keep (fun k hk hlt => ⟨trivial, hw1.ro_at (wD, _) (by first | exact .head _ | exact .tail _ (.head _) | exact .tail _ (.tail _ (.head _)) | exact .tail _ (.tail _ (.tail _ (.head _)))) k hk hlt⟩)) (hr9.keep (fun k hk hlt => ⟨trivial, hw1.ro_at (wB, _) (by first | exact .head _ | exact .tail _ (.head _) | exact .tail _ (.tail _ (.head _)) | exact .tail _ (.tail _ (.tail _ (.head _)))) k hk hlt⟩)) 97 109) fun b37 hb37 => ?_
 obtain rfl : b37 = true := hb37.trans (decide_eq_true rfl)
 refine Ze ?_
 refine k_end (List.sublist_append_right _ _) (by intro s hs; first | exact hs | exact List.mem_cons_of_mem _ hs | exact List.mem_cons_of_mem _ (List.mem_cons_of_mem _ hs)) ?_
 refine k_bool rfl rfl (v_not rfl) fun b38 hb38 => ?_
 obtain rfl : b38 = false := hb38
 refine k_val rfl rfl (v_move rfl) ?_
 refine k_valg rfl rfl rfl rfl (v_fieldAddr (off' := 2) u51 rfl sz49 (by decide) rfl rfl) ?_
 refine k_valg rfl rfl rfl rfl (v_load u49 rfl rfl (at_ownL (vs := [Value.int .u8 97, .int .u8 109, .slice A9 (rewF (stF (takeAll (feedsF qs))).hs (rqF (titN ti) rs)).length c9]) (.head _) rfl)) ?_
 refine k_valg (v := Vi ((rewF (stF (takeAll (feedsF qs))).hs (rqF (titN ti) rs)).length : Nat)) rfl rfl rfl rfl (v_len_slice u49 rfl) ?_
 refine k_valg rfl rfl rfl rfl (v_fieldAddr (off' := 2) u51 rfl sz49 (by decide) rfl rfl) ?_
 refine k_valg rfl rfl rfl rfl (v_load u49 rfl rfl (at_ownL (vs := [Value.int .u8 97, .int .u8 109, .slice AC (rqF (titN ti) rs).length cC]) (.tail _ (.head _)) rfl)) ?_
 refine k_valg (v := Vi ((rqF (titN ti) rs).length : Nat)) rfl rfl rfl rfl (v_len_slice u49 rfl) ?_
 refine k_boolg rfl rfl rfl rfl (v_neq rfl rfl) fun b46 hb46 => ?_
 obtain rfl : b46 = false := hb46.trans (by rw [hRl]; simp)
 refine k_bool rfl rfl (v_or rfl rfl) fun b47 hb47 => ?_
 obtain rfl : b47 = false := hb47
 refine k_done ?_
 refine Ze (Zt ?_)
 refine w_cond rfl (fun hc47 => ?_) fun hc47 => ?_
 ·cases hc47
 skip
 refine w_skip (Zt (Zs (Zs (Zr ?_))))
 refine Xa ?_
 refine Ze (Zt (w_block ?_))
 refine w_loop (σ := Nat × FM8) (fun z => z.1 ≤ (rewF (stF (takeAll (feedsF qs))).hs (rqF (titN ti) rs)).length ∧ FOK z.2 (takeAll (feedsF qs)) ∧ z.2.pf = x0.pf) (fun z => [(7, Value.bool true), (8, Pt x0.pf), (9, Pt p9), (10, Pt p10), (11, Vi (z.1 : Nat))]) (fun z => FO z.2 (takeAll (feedsF qs)) ++ [(Bk p10 [Value.int .u8 97, .int .u8 109, .slice A9 (rewF (stF (takeAll (feedsF qs))).hs (rqF (titN ti) rs)).length c9] 51), (Bk p9 [Value.int .u8 97, .int .u8 109, .slice AC (rqF (titN ti) rs).length cC] 51)]) (fun z => [(wB, notOwn (FO x1 (takeAll (feedsF qs)) ++ [(Bk p9 [Value.int .u8 97, .int .u8 109, .slice AC (rqF (titN ti) rs).length cC] 51)])), (w5, notOwn (FO x0 (takeAll (feedsF qs)) ++ [(Bk p9 [Value.int .u8 97, .int .u8 109, .slice AC (rqF (titN ti) rs).length cC] 51)])), (w, fun _ => True)]) (fun z => (rewF (stF (takeAll (feedsF qs))).hs (rqF (titN ti) rs)).length - z.1) ((0, x2)) (⟨Nat.zero_le _, hx2, px2⟩) (l_start Zu (fun w1 h => h.less (List.Sublist.refl _) (fun s hs => .tail _ hs))) ?_
 rintro ⟨k, x⟩ ⟨hk, hx, px⟩
 refine w_state ([(7, Value.bool true), (8, Pt x0.pf), (9, Pt p9), (10, Pt p10), (11, Vi (k : Nat))]) (FO x (takeAll (feedsF qs)) ++ [(Bk p10 [Value.int .u8 97, .int .u8 109, .slice A9 (rewF (stF (takeAll (feedsF qs))).hs (rqF (titN ti) rs)).length c9] 51), (Bk p9 [Value.int .u8 97, .int .u8 109, .slice AC (rqF (titN ti) rs).length cC] 51)]) ([(wB, notOwn (FO x1 (takeAll (feedsF qs)) ++ [(Bk p9 [Value.int .u8 97, .int .u8 109, .slice AC (rqF (titN ti) rs).length cC] 51)])), (w5, notOwn (FO x0 (takeAll (feedsF qs)) ++ [(Bk p9 [Value.int .u8 97, .int .u8 109, .slice AC (rqF (titN ti) rs).length cC] 51)])), (w, fun _ => True)]) ?_
 dsimp only at hk hx px
 refine Zs (Zs (Zr ?_))
 refine Xm ?_
 refine Xf 2 rfl u51 rfl sz49 ?_
 refine Xl rfl u49 rfl (at_ownL (vs := [Value.int .u8 97, .int .u8 109, .slice A9 (rewF (stF (takeAll (feedsF qs))).hs (rqF (titN ti) rs)).length c9]) (by first | exact .head _ | exact .tail _ (.head _) | exact List.mem_append_right _ (.head _) | exact List.mem_append_right _ (.tail _ (.head _)) | exact List.mem_append_right _ (.tail _ (.tail _ (.head _))) | exact List.mem_append_right _ (.tail _ (.tail _ (.tail _ (.head _)))) | exact .tail _ (.tail _ (List.mem_append_right _ (.head _))) | exact .tail _ (.tail _ (List.mem_append_right _ (.tail _ (.head _)))) | exact List.mem_append_right _ (.tail _ (.tail _ (.tail _ (.tail _ (.head _)))))) rfl) ?_
 refine Xv (v := Vi ((rewF (stF (takeAll (feedsF qs))).hs (rqF (titN ti) rs)).length : Nat)) rfl (v_len_slice u49 rfl) ?_
 refine Xb rfl (v_lss rfl rfl) fun b52 hb52 => ?_
 refine Ze (Zt ?_)
 refine w_cond rfl (fun hc52 => ?_) fun hc52 => ?_
 ·simp only [hb52, Qz, ne_eq] at hc52
  have hkl : k < (rewF (stF (takeAll (feedsF qs))).hs (rqF (titN ti) rs)).length := by omega
  have hkl0 : k < (rqF (titN ti) rs).length := by omega
  obtain ⟨bx, ox, v1, hAC, hDx, hcx, hsx0, _⟩ := fl8_at hg5 hkl0
  obtain ⟨A3, c3, rfl, _⟩ := id hsx0
  obtain ⟨b_y, oy, v2, hA9, hDy, hcy, hsy0, _⟩ := fl8_at hr9 hkl
  obtain ⟨A4, c4, rfl, _⟩ := id hsy0
  obtain ⟨hsl, hsz1⟩ := (hall _ (List.getElem_mem hkl0)).1
  have hasz : (joinS (txtA (rqF (titN ti) rs)[k].subs)).size ≤ 4000000 := by
   have h9 := joinS_sz 1000 (txtA (rqF (titN ti) rs)[k].subs) (fun t ht => by unfold txtA at ht; obtain ⟨s, hs, rfl⟩ := List.mem_map.1 ht; exact hsz1 s (List.mem_filter.1 hs).1)
   have h8 := txtA_len (rqF (titN ti) rs)[k].subs
   have h7 : (txtA (rqF (titN ti) rs)[k].subs).length * 1001 ≤ 1000 * 1001 := Nat.mul_le_mul_right _ (by omega)
   omega
  refine w_skip (Zt (Zs (w_block ?_)))
  refine w_seq_cut (σ := Nat × Nat) (fun z => True) (fun z => [(7, Value.bool true), (8, Pt x0.pf), (9, Pt p9), (10, Pt p10), (11, Vi (k : Nat)), (12, Pt z.1), (13, Pt z.2)]) (fun z => (Bk z.2 (flV8 (rewF (stF (takeAll (feedsF qs))).hs (rqF (titN ti) rs))[k] (.slice A4 (rewF (stF (takeAll (feedsF qs))).hs (rqF (titN ti) rs))[k].subs.length c4)) 62) :: (Bk z.1 (flV8 (rqF (titN ti) rs)[k] (.slice A3 (rqF (titN ti) rs)[k].subs.length c3)) 62) :: (FO x (takeAll (feedsF qs)) ++ [(Bk p10 [Value.int .u8 97, .int .u8 109, .slice A9 (rewF (stF (takeAll (feedsF qs))).hs (rqF (titN ti) rs)).length c9] 51), (Bk p9 [Value.int .u8 97, .int .u8 109, .slice AC (rqF (titN ti) rs).length cC] 51)])) (fun z => [(wB, notOwn (FO x1 (takeAll (feedsF qs)) ++ [(Bk p9 [Value.int .u8 97, .int .u8 109, .slice AC (rqF (titN ti) rs).length cC] 51)])), (w5, notOwn (FO x0 (takeAll (feedsF qs)) ++ [(Bk p9 [Value.int .u8 97, .int .u8 109, .slice AC (rqF (titN ti) rs).length cC] 51)])), (w, fun _ => True)]) ?_ ?_
  ·refine rg_inv ([(Bk p10 [Value.int .u8 97, .int .u8 109, .slice A9 (rewF (stF (takeAll (feedsF qs))).hs (rqF (titN ti) rs)).length c9] 51), (Bk p9 [Value.int .u8 97, .int .u8 109, .slice AC (rqF (titN ti) rs).length cC] 51)]) 14 (.flt 0 (.flt 1 (.flt 2 (.flt 3 (.flt 4 (.flt 5 (.flt 6 (.flt 7 (.flt 8 (.flt 9 (.gr 10 (.gr 11 (.gr 12 (.gr 13 .done .nil) .nil) .nil) (.gr 11 (.gr 10 (.gr 12 (.gr 13 .done .nil) .nil) .nil) .nil)))))))))))) (by first | exact List.sublist_append_right _ _ | exact (List.sublist_append_right _ _).cons _ | exact ((List.sublist_append_right _ _).cons _).cons _) Zk Zk ?_
   refine k_val rfl rfl (v_fieldAddr (off' := 2) u51 rfl sz49 (by decide) rfl rfl) ?_
   refine k_val rfl rfl (v_load u49 rfl rfl (at_ownL (vs := [Value.int .u8 97, .int .u8 109, .slice AC (rqF (titN ti) rs).length cC]) (by first | exact .head _ | exact .tail _ (.head _) | exact List.mem_append_right _ (.head _) | exact List.mem_append_right _ (.tail _ (.head _)) | exact List.mem_append_right _ (.tail _ (.tail _ (.head _))) | exact List.mem_append_right _ (.tail _ (.tail _ (.tail _ (.head _)))) | exact .tail _ (.tail _ (List.mem_append_right _ (.head _))) | exact .tail _ (.tail _ (List.mem_append_right _ (.tail _ (.head _)))) | exact List.mem_append_right _ (.tail _ (.tail _ (.tail _ (.tail _ (.head _)))))) rfl)) ?_
   refine k_val rfl rfl (v_move rfl) ?_
   refine k_val rfl rfl (v_indexAddr u49 sz62 (congrArg (fun A => some (Value.slice A (rqF (titN ti) rs).length cC)) hAC) rfl (hkl0) rfl) ?_
   refine k_val rfl rfl (v_loadN (vs := (flV8 (rqF (titN ti) rs)[k] (.slice A3 (rqF (titN ti) rs)[k].subs.length c3))) u62 rfl sz62 rfl (fun i hi => at_ro (.tail _ (.head _)) hDx (hcx i hi))) ?_
   refine k_val rfl rfl (v_fieldAddr (off' := 2) u51 rfl sz49 (by decide) rfl rfl) ?_
   refine k_val rfl rfl (v_load u49 rfl rfl (at_ownL (vs := [Value.int .u8 97, .int .u8 109, .slice A9 (rewF (stF (takeAll (feedsF qs))).hs (rqF (titN ti) rs)).length c9]) (by first | exact .head _ | exact .tail _ (.head _) | exact List.mem_append_right _ (.head _) | exact List.mem_append_right _ (.tail _ (.head _)) | exact List.mem_append_right _ (.tail _ (.tail _ (.head _))) | exact List.mem_append_right _ (.tail _ (.tail _ (.tail _ (.head _)))) | exact .tail _ (.tail _ (List.mem_append_right _ (.head _))) | exact .tail _ (.tail _ (List.mem_append_right _ (.tail _ (.head _)))) | exact List.mem_append_right _ (.tail _ (.tail _ (.tail _ (.tail _ (.head _)))))) rfl)) ?_
   refine k_val rfl rfl (v_move rfl) ?_
   refine k_val rfl rfl (v_indexAddr u49 sz62 (congrArg (fun A => some (Value.slice A (rewF (stF (takeAll (feedsF qs))).hs (rqF (titN ti) rs)).length c9)) hA9) rfl (hkl) rfl) ?_
   refine k_val rfl rfl (v_loadN (vs := (flV8 (rewF (stF (takeAll (feedsF qs))).hs (rqF (titN ti) rs))[k] (.slice A4 (rewF (stF (takeAll (feedsF qs))).hs (rqF (titN ti) rs))[k].subs.length c4))) u62 rfl sz62 rfl (fun i hi => at_ro (.head _) hDy (hcy i hi))) ?_
   refine k_gr ?_ ?_
   ·refine x_alloc rfl rfl rfl zr62 ?_
    intro p12
    refine Ze ?_
    refine k_end (by first | exact List.sublist_append_right _ _ | exact (List.sublist_append_right _ _).cons _ | exact ((List.sublist_append_right _ _).cons _).cons _) (by intro s hs; first | exact hs | exact List.mem_cons_of_mem _ hs) ?_
    refine k_gr ?_ k_nil
    refine x_alloc rfl rfl rfl zr62 ?_
    intro p13
    refine Ze ?_
    refine k_end (by first | exact List.sublist_append_right _ _ | exact (List.sublist_append_right _ _).cons _ | exact ((List.sublist_append_right _ _).cons _).cons _) (by intro s hs; first | exact hs | exact List.mem_cons_of_mem _ hs) ?_
    refine k_gr ?_ k_nil
    first | refine x_store0 [] rfl rfl rfl rfl sz62 rfl rfl ?_ | refine x_store0 [_] rfl rfl rfl rfl sz62 rfl rfl ?_
    refine Ze ?_
    refine k_end (by first | exact List.sublist_append_right _ _ | exact (List.sublist_append_right _ _).cons _ | exact ((List.sublist_append_right _ _).cons _).cons _) (by intro s hs; first | exact hs | exact List.mem_cons_of_mem _ hs) ?_
    refine k_gr ?_ k_nil
    first | refine x_store0 [] rfl rfl rfl rfl sz62 rfl rfl ?_ | refine x_store0 [_] rfl rfl rfl rfl sz62 rfl rfl ?_
    refine Ze ?_
    refine k_end (by first | exact List.sublist_append_right _ _ | exact (List.sublist_append_right _ _).cons _ | exact ((List.sublist_append_right _ _).cons _).cons _) (by intro s hs; first | exact hs | exact List.mem_cons_of_mem _ hs) ?_
    refine k_done ?_
    refine Ze ?_
    exact c_norm (p12, p13) trivial Zu (fun _ h => h)
   refine k_gr ?_ k_nil
   refine x_alloc rfl rfl rfl zr62 ?_
   intro p13
   refine Ze ?_
   refine k_end (by first | exact List.sublist_append_right _ _ | exact (List.sublist_append_right _ _).cons _ | exact ((List.sublist_append_right _ _).cons _).cons _) (by intro s hs; first | exact hs | exact List.mem_cons_of_mem _ hs) ?_
   refine k_gr ?_ k_nil
   refine x_alloc rfl rfl rfl zr62 ?_
   intro p12
   refine Ze ?_
   refine k_end (by first | exact List.sublist_append_right _ _ | exact (List.sublist_append_right _ _).cons _ | exact ((List.sublist_append_right _ _).cons _).cons _) (by intro s hs; first | exact hs | exact List.mem_cons_of_mem _ hs) ?_
   refine k_gr ?_ k_nil
   first | refine x_store0 [] rfl rfl rfl rfl sz62 rfl rfl ?_ | refine x_store0 [_] rfl rfl rfl rfl sz62 rfl rfl ?_
   refine Ze ?_
   refine k_end (by first | exact List.sublist_append_right _ _ | exact (List.sublist_append_right _ _).cons _ | exact ((List.sublist_append_right _ _).cons _).cons _) (by intro s hs; first | exact hs | exact List.mem_cons_of_mem _ hs) ?_
   refine k_gr ?_ k_nil
   first | refine x_store0 [] rfl rfl rfl rfl sz62 rfl rfl ?_ | refine x_store0 [_] rfl rfl rfl rfl sz62 rfl rfl ?_
   refine Ze ?_
   refine k_end (by first | exact List.sublist_append_right _ _ | exact (List.sublist_append_right _ _).cons _ | exact ((List.sublist_append_right _ _).cons _).cons _) (by intro s hs; first | exact hs | exact List.mem_cons_of_mem _ hs) ?_
   refine k_done ?_
   refine Ze ?_
   exact c_norm (p12, p13) trivial Zu (fun _ h => h.perm (List.Perm.swap _ _ _))
  rintro ⟨p12, p13⟩ _
  refine w_state ([(7, Value.bool true), (8, Pt x0.pf), (9, Pt p9), (10, Pt p10), (11, Vi (k : Nat)), (12, Pt p12), (13, Pt p13)]) ((Bk p13 (flV8 (rewF (stF (takeAll (feedsF qs))).hs (rqF (titN ti) rs))[k] (.slice A4 (rewF (stF (takeAll (feedsF qs))).hs (rqF (titN ti) rs))[k].subs.length c4)) 62) :: (Bk p12 (flV8 (rqF (titN ti) rs)[k] (.slice A3 (rqF (titN ti) rs)[k].subs.length c3)) 62) :: (FO x (takeAll (feedsF qs)) ++ [(Bk p10 [Value.int .u8 97, .int .u8 109, .slice A9 (rewF (stF (takeAll (feedsF qs))).hs (rqF (titN ti) rs)).length c9] 51), (Bk p9 [Value.int .u8 97, .int .u8 109, .slice AC (rqF (titN ti) rs).length cC] 51)])) ([(wB, notOwn (FO x1 (takeAll (feedsF qs)) ++ [(Bk p9 [Value.int .u8 97, .int .u8 109, .slice AC (rqF (titN ti) rs).length cC] 51)])), (w5, notOwn (FO x0 (takeAll (feedsF qs)) ++ [(Bk p9 [Value.int .u8 97, .int .u8 109, .slice AC (rqF (titN ti) rs).length cC] 51)])), (w, fun _ => True)]) ?_
  refine Zs (Zr ?_)
  refine Xf 0 rfl u62 rfl sz9 ?_
  refine Xv rfl (Vl u9 rfl) ?_
  refine Xb rfl (v_seql rfl rfl) fun b67 hb67 => ?_
  refine Xm ?_
  refine Xi rfl rfl rfl (fun hg0 => by subst hg0; (try simp only [Qy]); exact v_fieldAddr (off' := 0) u62 rfl sz9 (by decide) rfl rfl) ?_
  refine Xi rfl rfl rfl (fun hg0 => by subst hg0; (try simp only [Qy]); exact Vl u9 rfl) ?_
  refine Xj rfl rfl rfl (fun hg0 => by subst hg0; (try simp only [Qy]); exact v_seql rfl rfl) fun b71 hb71 => ?_
  refine Xb rfl (v_or rfl rfl) fun b72 hb72 => ?_
  refine Xm ?_
  refine Xi rfl rfl rfl (fun hg0 => by subst hg0; (try simp only [Qy]); exact v_fieldAddr (off' := 0) u62 rfl sz9 (by decide) rfl rfl) ?_
  refine Xi rfl rfl rfl (fun hg0 => by subst hg0; (try simp only [Qy]); exact Vl u9 rfl) ?_
  refine Xj rfl rfl rfl (fun hg0 => by subst hg0; (try simp only [Qy]); exact v_seql rfl rfl) fun b76 hb76 => ?_
  refine Xb rfl (v_or rfl rfl) fun b77 hb77 => ?_
  refine Xm ?_
  refine Xi rfl rfl rfl (fun hg0 => by subst hg0; (try simp only [Qy]); exact v_fieldAddr (off' := 0) u62 rfl sz9 (by decide) rfl rfl) ?_
  refine Xi rfl rfl rfl (fun hg0 => by subst hg0; (try simp only [Qy]); exact Vl u9 rfl) ?_
  refine Xj rfl rfl rfl (fun hg0 => by subst hg0; (try simp only [Qy]); exact v_seql rfl rfl) fun b81 hb81 => ?_
  refine Xb rfl (v_or rfl rfl) fun b82 hb82 => ?_
  refine Xm ?_
  refine Xi rfl rfl rfl (fun hg0 => by subst hg0; (try simp only [Qy]); exact v_fieldAddr (off' := 0) u62 rfl sz9 (by decide) rfl rfl) ?_
  refine Xi rfl rfl rfl (fun hg0 => by subst hg0; (try simp only [Qy]); exact Vl u9 rfl) ?_
  refine Xj rfl rfl rfl (fun hg0 => by subst hg0; (try simp only [Qy]); exact v_seql rfl rfl) fun b86 hb86 => ?_
  refine Xb rfl (v_or rfl rfl) fun b87 hb87 => ?_
  refine Xa ?_
  refine Ze (Zt (Zs (Zr ?_)))
  refine Xm ?_
  refine Xv (v := Value.agg (flV8 (rqF (titN ti) rs)[k] (.slice A3 (rqF (titN ti) rs)[k].subs.length c3)).toArray) rfl (v_load_blk u62 rfl rfl (.tail _ (.head _)) (by exact sz62)) ?_
  refine x_callv rfl rfl rfl Tryz.func32 Zk rfl (fun w1 hw1 => r_TextA w1 (hsx0.keep (fun k hk hlt => ⟨trivial, hw1.ro_at (w5, _) (by first | exact .head _ | exact .tail _ (.head _) | exact .tail _ (.tail _ (.head _)) | exact .tail _ (.tail _ (.tail _ (.head _)))) k hk hlt⟩)) (.refl _) hsl hsz1) ?_
  refine x_mem (own' := FO x (takeAll (feedsF qs)) ++ [(Bk p13 (flV8 (rewF (stF (takeAll (feedsF qs))).hs (rqF (titN ti) rs))[k] (.slice A4 (rewF (stF (takeAll (feedsF qs))).hs (rqF (titN ti) rs))[k].subs.length c4)) 62), (Bk p12 (flV8 (rqF (titN ti) rs)[k] (.slice A3 (rqF (titN ti) rs)[k].subs.length c3)) 62), (Bk p10 [Value.int .u8 97, .int .u8 109, .slice A9 (rewF (stF (takeAll (feedsF qs))).hs (rqF (titN ti) rs)).length c9] 51), (Bk p9 [Value.int .u8 97, .int .u8 109, .slice AC (rqF (titN ti) rs).length cC] 51)]) (fun _ h => h.perm (fo_p2)) ?_
  refine x_turn (τ := FM8) (fst := #[]) (cap := #[]) (v := .tuple #[Vi (findF (stF (takeAll (feedsF qs))).hs (joinS (txtA (rqF (titN ti) rs)[k].subs))).1, .bool (findF (stF (takeAll (feedsF qs))).hs (joinS (txtA (rqF (titN ti) rs)[k].subs))).2]) (fun y => FOK y ((takeAll (feedsF qs))) ∧ y.pf = x0.pf) (fun y => FO y ((takeAll (feedsF qs))) ++ [(Bk p13 (flV8 (rewF (stF (takeAll (feedsF qs))).hs (rqF (titN ti) rs))[k] (.slice A4 (rewF (stF (takeAll (feedsF qs))).hs (rqF (titN ti) rs))[k].subs.length c4)) 62), (Bk p12 (flV8 (rqF (titN ti) rs)[k] (.slice A3 (rqF (titN ti) rs)[k].subs.length c3)) 62), (Bk p10 [Value.int .u8 97, .int .u8 109, .slice A9 (rewF (stF (takeAll (feedsF qs))).hs (rqF (titN ti) rs)).length c9] 51), (Bk p9 [Value.int .u8 97, .int .u8 109, .slice AC (rqF (titN ti) rs).length cC] 51)]) rfl rfl rfl Tryz.func19 Zk rfl (fun w1 hw1 => by
   simp only [Array.empty_append, Array.append_empty]
   have h := k_Find (t := (joinS (txtA (rqF (titN ti) rs)[k].subs))) (L := [(Bk p13 (flV8 (rewF (stF (takeAll (feedsF qs))).hs (rqF (titN ti) rs))[k] (.slice A4 (rewF (stF (takeAll (feedsF qs))).hs (rqF (titN ti) rs))[k].subs.length c4)) 62), (Bk p12 (flV8 (rqF (titN ti) rs)[k] (.slice A3 (rqF (titN ti) rs)[k].subs.length c3)) 62), (Bk p10 [Value.int .u8 97, .int .u8 109, .slice A9 (rewF (stF (takeAll (feedsF qs))).hs (rqF (titN ti) rs)).length c9] 51), (Bk p9 [Value.int .u8 97, .int .u8 109, .slice AC (rqF (titN ti) rs).length cC] 51)]) hx hasz (by first | exact .head _ | exact .tail _ (.head _) | exact .tail _ (.tail _ (.head _)) | exact .tail _ (.tail _ (.tail _ (.head _)))) hL hw1
   rw [px] at h
   exact h) ?_
  rintro xa ⟨hxa, pxa⟩
  refine Xm ?_
  refine Xe ?_
  refine Xb rfl (v_extract rfl rfl) fun b94 hb94 => ?_
  refine Xa ?_
  refine Xa ?_
  refine Ze (Zt (Zs (Zs (Zr ?_))))
  refine Xm ?_
  refine Xb rfl (v_not rfl) fun b96 hb96 => ?_
  refine Xm ?_
  refine Xi rfl rfl rfl (fun hg0 => by subst hg0; (try simp only [Qy]); exact v_fieldAddr (off' := 3) u62 rfl sz60 (by decide) rfl rfl) ?_
  refine Xi rfl rfl rfl (fun hg0 => by subst hg0; (try simp only [Qy]); exact v_load u60 rfl rfl (at_ownL (vs := (flV8 (rqF (titN ti) rs)[k] (.slice A3 (rqF (titN ti) rs)[k].subs.length c3))) (by first | exact .head _ | exact .tail _ (.head _) | exact List.mem_append_right _ (.head _) | exact List.mem_append_right _ (.tail _ (.head _)) | exact List.mem_append_right _ (.tail _ (.tail _ (.head _))) | exact List.mem_append_right _ (.tail _ (.tail _ (.tail _ (.head _)))) | exact .tail _ (.tail _ (List.mem_append_right _ (.head _))) | exact .tail _ (.tail _ (List.mem_append_right _ (.tail _ (.head _)))) | exact List.mem_append_right _ (.tail _ (.tail _ (.tail _ (.tail _ (.head _)))))) rfl)) ?_
  refine Xi rfl rfl rfl (fun hg0 => by subst hg0; (try simp only [Qy]); exact v_len_slice u60 rfl) ?_
  refine Xj rfl rfl rfl (fun hg0 => by subst hg0; (try simp only [Qy]); exact v_neq rfl rfl) fun b101 hb101 => ?_
  refine Xb rfl (v_or rfl rfl) fun b102 hb102 => ?_
  refine Xm ?_
  refine Xg ?_
  refine Xj rfl rfl rfl (fun hg0 => by subst hg0; (try simp only [Qy]); exact v_not rfl) fun b105 hb105 => ?_
  refine Xb rfl (v_or rfl rfl) fun b106 hb106 => ?_
  refine Ze (Zt ?_)
  refine w_cond rfl (fun hc106 => ?_) fun hc106 => ?_
  ·skip
   refine w_exit ?_
   refine t_exit ?_
   refine b_hit ?_
   refine Zt (Zr ?_)
   refine Xm ?_
   refine Xv rfl (v_addi rfl rfl rfl Zo) ?_
   refine Xa ?_
   refine Ze ?_
   exact l_norm (k + 1, xa) ⟨hkl, hxa, pxa⟩ (by simp only; omega) Zu (fun _ h => h.less ((List.Sublist.refl _).append (((List.Sublist.refl _).cons _).cons _)) (fun _ h => h))
  simp only [hb106, hb105, hb94, hb102, hb101, hb96, hb87, hb86, hb82, hb81, hb77, hb76, hb72, hb71, hb67, Qz, ne_eq] at hc106
  have hru : amg ruledL (rqF (titN ti) rs)[k].tag = true := amg_ruled hc106.1.1
  have h2 : (rqF (titN ti) rs)[k].subs.length = 2 := by have h9 := hc106.1.2; omega
  have hfd : (findF (stF (takeAll (feedsF qs))).hs (joinS (txtA (rqF (titN ti) rs)[k].subs))).2 = true := hc106.2
  obtain ⟨n, _, hn, rfl, ⟨g9, hg9⟩, hy0⟩ := fol_fact (fs_acy' hx0.ok) seed_id (rqF_words (titN_in ti) rs) (List.getElem_mem hkl0) hru h2 hfd
  have hyk : (rewF (stF (takeAll (feedsF qs))).hs (rqF (titN ti) rs))[k] = rewX (stF (takeAll (feedsF qs))).hs (titF (rqF (titN ti) rs)) (rqF (titN ti) rs)[k] := rewF_at hkl hkl0
  rw [← hyk] at hy0
  have hly : (rewF (stF (takeAll (feedsF qs))).hs (rqF (titN ti) rs))[k].subs.length = 3 := by rw [hy0]; rfl
  have hac := fs_acy' hx0.ok
  obtain ⟨g1, hg1⟩ := (findF_lk hac (joinS (txtA (rqF (titN ti) rs)[k].subs))).1 hfd
  have hin1 : in64 (findF (stF (takeAll (feedsF qs))).hs (joinS (txtA (rqF (titN ti) rs)[k].subs))).1 := by
   obtain ⟨m1, m2⟩ := lkH_mem hg1
   have q1 := (hac.pos g1 m1).1
   have q2 := seed_id g1 m1
   rw [← m2]; unfold in64; omega
  have hto1 : 1 ≤ (resolveF (stF (takeAll (feedsF qs))).hs (wordsP (ttlR (rqF (titN ti) rs))) (findF (stF (takeAll (feedsF qs))).hs (joinS (txtA (rqF (titN ti) rs)[k].subs))).1).1 ∧ (resolveF (stF (takeAll (feedsF qs))).hs (wordsP (ttlR (rqF (titN ti) rs))) (findF (stF (takeAll (feedsF qs))).hs (joinS (txtA (rqF (titN ti) rs)[k].subs))).1).1 < 1000000000000000000 := by
   obtain ⟨m1, m2⟩ := lkH_mem hg9
   have q1 := (hac.pos g9 m1).1
   have q2 := seed_id g9 m1
   rw [← m2]; omega
  have hin2 : in64 (resolveF (stF (takeAll (feedsF qs))).hs (wordsP (ttlR (rqF (titN ti) rs))) (findF (stF (takeAll (feedsF qs))).hs (joinS (txtA (rqF (titN ti) rs)[k].subs))).1).1 := by unfold in64; omega
  have hsy1 : sliceRd tySb (notOwn (FO x1 (takeAll (feedsF qs)) ++ [(Bk p9 [Value.int .u8 97, .int .u8 109, .slice AC (rqF (titN ti) rs).length cC] 51)])) wB (.slice A4 (rewF (stF (takeAll (feedsF qs))).hs (rqF (titN ti) rs))[k].subs.length c4) (rewF (stF (takeAll (feedsF qs))).hs (rqF (titN ti) rs))[k].subs := hsy0
  rw [hn] at hsx0
  rw [hy0] at hsy1
  obtain ⟨b3, o3, hA3, hD3, hc3⟩ := sb_all hsx0 (by show 0 < 2; decide)
  obtain ⟨b4, o4, hA4, hD4, hc4⟩ := sb_all hsy1 (by show 0 < 3; decide)
  refine w_skip (Zt (Zs (Zr ?_)))
  refine Xv (v := Value.agg ([Value.int .u8 97, .int .u8 109, .slice AC (rqF (titN ti) rs).length cC]).toArray) rfl (v_load_blk u51 rfl rfl (by first | exact .head _ | exact .tail _ (.head _) | exact List.mem_append_right _ (.head _) | exact List.mem_append_right _ (.tail _ (.head _)) | exact List.mem_append_right _ (.tail _ (.tail _ (.head _))) | exact List.mem_append_right _ (.tail _ (.tail _ (.tail _ (.head _)))) | exact .tail _ (.tail _ (List.mem_append_right _ (.head _))) | exact .tail _ (.tail _ (List.mem_append_right _ (.tail _ (.head _)))) | exact List.mem_append_right _ (.tail _ (.tail _ (.tail _ (.tail _ (.head _)))))) (by exact sz51)) ?_
  refine x_own (τ := (Option Addr × Nat) × Bool) (fun z => .tuple #[.agg (flV8 (fstF (rqF (titN ti) rs)) (.slice z.1.1 (fstF (rqF (titN ti) rs)).subs.length z.1.2)).toArray, .bool z.2]) (fun z => sliceRd tySb (notOwn (FO x0 (takeAll (feedsF qs)) ++ [(Bk p9 [Value.int .u8 97, .int .u8 109, .slice AC (rqF (titN ti) rs).length cC] 51)])) w5 (.slice z.1.1 (fstF (rqF (titN ti) rs)).subs.length z.1.2) (fstF (rqF (titN ti) rs)).subs) (fun z => FO xa (takeAll (feedsF qs)) ++ [(Bk p13 (flV8 (rewF (stF (takeAll (feedsF qs))).hs (rqF (titN ti) rs))[k] (.slice A4 (rewF (stF (takeAll (feedsF qs))).hs (rqF (titN ti) rs))[k].subs.length c4)) 62), (Bk p12 (flV8 (rqF (titN ti) rs)[k] (.slice A3 (rqF (titN ti) rs)[k].subs.length c3)) 62), (Bk p10 [Value.int .u8 97, .int .u8 109, .slice A9 (rewF (stF (takeAll (feedsF qs))).hs (rqF (titN ti) rs)).length c9] 51), (Bk p9 [Value.int .u8 97, .int .u8 109, .slice AC (rqF (titN ti) rs).length cC] 51)]) rfl rfl rfl Tryz.func33 Zk rfl (fun w1 hw1 => (r_FirstD w1 hg5 (fun k hk hlt => ⟨trivial, hw1.ro_at (w5, _) (by first | exact .head _ | exact .tail _ (.head _) | exact .tail _ (.tail _ (.head _)) | exact .tail _ (.tail _ (.tail _ (.head _)))) k hk hlt⟩) 97 109).mono fun e w2 ⟨v', bb, h1, h2, h3⟩ => by
   obtain ⟨A7, c7, rfl, _⟩ := id h2
   exact ⟨((A7, c7), bb), h1, h3, h2, hw1.later h3⟩) ?_
  rintro ⟨⟨A7, c7⟩, b7⟩ hv7
  refine Xm ?_
  refine Xe ?_
  refine Xb rfl (v_extract rfl rfl) fun b111 hb111 => ?_
  refine x_alloc rfl rfl rfl zr62 ?_
  intro p17
  refine x_store0 [] rfl rfl rfl rfl sz62 rfl rfl ?_
  refine Xa ?_
  refine Ze (Zt (Zs (Zr ?_)))
  refine Xm ?_
  refine Xm ?_
  refine Xv (v := Value.agg (flV8 (fstF (rqF (titN ti) rs)) (.slice A7 (fstF (rqF (titN ti) rs)).subs.length c7)).toArray) rfl (v_load_blk u62 rfl rfl (.head _) (by exact sz62)) ?_
  refine x_callv rfl rfl rfl Tryz.func32 Zk rfl (fun w1 hw1 => r_Text w1 (hv7.keep (fun k hk hlt => ⟨trivial, hw1.ro_at (w5, _) (by first | exact .head _ | exact .tail _ (.head _) | exact .tail _ (.tail _ (.head _)) | exact .tail _ (.tail _ (.tail _ (.head _)))) k hk hlt⟩)) (.refl _) hft.1 hft.2) ?_
  refine x_mem (own' := FO xa (takeAll (feedsF qs)) ++ [(Bk p17 (flV8 (fstF (rqF (titN ti) rs)) (.slice A7 (fstF (rqF (titN ti) rs)).subs.length c7)) 62), (Bk p13 (flV8 (rewF (stF (takeAll (feedsF qs))).hs (rqF (titN ti) rs))[k] (.slice A4 (rewF (stF (takeAll (feedsF qs))).hs (rqF (titN ti) rs))[k].subs.length c4)) 62), (Bk p12 (flV8 (rqF (titN ti) rs)[k] (.slice A3 (rqF (titN ti) rs)[k].subs.length c3)) 62), (Bk p10 [Value.int .u8 97, .int .u8 109, .slice A9 (rewF (stF (takeAll (feedsF qs))).hs (rqF (titN ti) rs)).length c9] 51), (Bk p9 [Value.int .u8 97, .int .u8 109, .slice AC (rqF (titN ti) rs).length cC] 51)]) (fun _ h => h.perm (List.perm_middle.symm)) ?_
  refine x_turn (τ := FM8) (fst := #[]) (cap := #[]) (v := .tuple #[Vi (resolveF (stF (takeAll (feedsF qs))).hs (wordsP (ttlR (rqF (titN ti) rs))) (findF (stF (takeAll (feedsF qs))).hs (joinS (txtA (rqF (titN ti) rs)[k].subs))).1).1, .bool (resolveF (stF (takeAll (feedsF qs))).hs (wordsP (ttlR (rqF (titN ti) rs))) (findF (stF (takeAll (feedsF qs))).hs (joinS (txtA (rqF (titN ti) rs)[k].subs))).1).2]) (fun y => FOK y ((takeAll (feedsF qs))) ∧ y.pf = x0.pf) (fun y => FO y ((takeAll (feedsF qs))) ++ [(Bk p17 (flV8 (fstF (rqF (titN ti) rs)) (.slice A7 (fstF (rqF (titN ti) rs)).subs.length c7)) 62), (Bk p13 (flV8 (rewF (stF (takeAll (feedsF qs))).hs (rqF (titN ti) rs))[k] (.slice A4 (rewF (stF (takeAll (feedsF qs))).hs (rqF (titN ti) rs))[k].subs.length c4)) 62), (Bk p12 (flV8 (rqF (titN ti) rs)[k] (.slice A3 (rqF (titN ti) rs)[k].subs.length c3)) 62), (Bk p10 [Value.int .u8 97, .int .u8 109, .slice A9 (rewF (stF (takeAll (feedsF qs))).hs (rqF (titN ti) rs)).length c9] 51), (Bk p9 [Value.int .u8 97, .int .u8 109, .slice AC (rqF (titN ti) rs).length cC] 51)]) rfl rfl rfl Tryz.func18 Zk rfl (fun w1 hw1 => by
   simp only [Array.empty_append, Array.append_empty]
   have h := k_Resolve (h := (findF (stF (takeAll (feedsF qs))).hs (joinS (txtA (rqF (titN ti) rs)[k].subs))).1) (t := ttlR (rqF (titN ti) rs)) (L := [(Bk p17 (flV8 (fstF (rqF (titN ti) rs)) (.slice A7 (fstF (rqF (titN ti) rs)).subs.length c7)) 62), (Bk p13 (flV8 (rewF (stF (takeAll (feedsF qs))).hs (rqF (titN ti) rs))[k] (.slice A4 (rewF (stF (takeAll (feedsF qs))).hs (rqF (titN ti) rs))[k].subs.length c4)) 62), (Bk p12 (flV8 (rqF (titN ti) rs)[k] (.slice A3 (rqF (titN ti) rs)[k].subs.length c3)) 62), (Bk p10 [Value.int .u8 97, .int .u8 109, .slice A9 (rewF (stF (takeAll (feedsF qs))).hs (rqF (titN ti) rs)).length c9] 51), (Bk p9 [Value.int .u8 97, .int .u8 109, .slice AC (rqF (titN ti) rs).length cC] 51)]) hxa hin1 httl (by first | exact .head _ | exact .tail _ (.head _) | exact .tail _ (.tail _ (.head _)) | exact .tail _ (.tail _ (.tail _ (.head _)))) hL hw1
   rw [pxa] at h
   exact h) ?_
  rintro xb ⟨hxb, pxb⟩
  refine Xm ?_
  refine Xe ?_
  refine Xb rfl (v_extract rfl rfl) fun b119 hb119 => ?_
  refine Xa ?_
  refine Xa ?_
  refine Ze (Zt (Zs (Zr ?_)))
  refine Xm ?_
  refine Xm ?_
  refine x_turn (τ := FM8) (fst := #[]) (cap := #[]) (v := .tuple #[.string (nameF (stF (takeAll (feedsF qs))).hs (resolveF (stF (takeAll (feedsF qs))).hs (wordsP (ttlR (rqF (titN ti) rs))) (findF (stF (takeAll (feedsF qs))).hs (joinS (txtA (rqF (titN ti) rs)[k].subs))).1).1).1, .bool (nameF (stF (takeAll (feedsF qs))).hs (resolveF (stF (takeAll (feedsF qs))).hs (wordsP (ttlR (rqF (titN ti) rs))) (findF (stF (takeAll (feedsF qs))).hs (joinS (txtA (rqF (titN ti) rs)[k].subs))).1).1).2]) (fun y => FOK y ((takeAll (feedsF qs))) ∧ y.pf = x0.pf) (fun y => FO y ((takeAll (feedsF qs))) ++ [(Bk p17 (flV8 (fstF (rqF (titN ti) rs)) (.slice A7 (fstF (rqF (titN ti) rs)).subs.length c7)) 62), (Bk p13 (flV8 (rewF (stF (takeAll (feedsF qs))).hs (rqF (titN ti) rs))[k] (.slice A4 (rewF (stF (takeAll (feedsF qs))).hs (rqF (titN ti) rs))[k].subs.length c4)) 62), (Bk p12 (flV8 (rqF (titN ti) rs)[k] (.slice A3 (rqF (titN ti) rs)[k].subs.length c3)) 62), (Bk p10 [Value.int .u8 97, .int .u8 109, .slice A9 (rewF (stF (takeAll (feedsF qs))).hs (rqF (titN ti) rs)).length c9] 51), (Bk p9 [Value.int .u8 97, .int .u8 109, .slice AC (rqF (titN ti) rs).length cC] 51)]) rfl rfl rfl Tryz.func31 Zk rfl (fun w1 hw1 => by
   simp only [Array.empty_append, Array.append_empty]
   have h := k_Name (h := (resolveF (stF (takeAll (feedsF qs))).hs (wordsP (ttlR (rqF (titN ti) rs))) (findF (stF (takeAll (feedsF qs))).hs (joinS (txtA (rqF (titN ti) rs)[k].subs))).1).1) (L := [(Bk p17 (flV8 (fstF (rqF (titN ti) rs)) (.slice A7 (fstF (rqF (titN ti) rs)).subs.length c7)) 62), (Bk p13 (flV8 (rewF (stF (takeAll (feedsF qs))).hs (rqF (titN ti) rs))[k] (.slice A4 (rewF (stF (takeAll (feedsF qs))).hs (rqF (titN ti) rs))[k].subs.length c4)) 62), (Bk p12 (flV8 (rqF (titN ti) rs)[k] (.slice A3 (rqF (titN ti) rs)[k].subs.length c3)) 62), (Bk p10 [Value.int .u8 97, .int .u8 109, .slice A9 (rewF (stF (takeAll (feedsF qs))).hs (rqF (titN ti) rs)).length c9] 51), (Bk p9 [Value.int .u8 97, .int .u8 109, .slice AC (rqF (titN ti) rs).length cC] 51)]) hxb hin2 (by first | exact .head _ | exact .tail _ (.head _) | exact .tail _ (.tail _ (.head _)) | exact .tail _ (.tail _ (.tail _ (.head _)))) hL hw1
   rw [pxb] at h
   exact h) ?_
  rintro xc ⟨hxc, pxc⟩
  refine Xm ?_
  refine Xe ?_
  refine Xb rfl (v_extract rfl rfl) fun b125 hb125 => ?_
  refine Xa ?_
  refine Xa ?_
  refine Ze (Zt (Zs ?_))
  refine rg_draw 34 [(true, 0), (true, 1), (true, 2), (true, 3), (true, 4), (true, 5), (true, 6), (true, 7), (true, 8), (true, 9), (true, 10), (true, 11), (true, 12), (true, 13), (true, 14), (true, 15), (true, 16), (true, 17), (true, 18), (true, 19), (true, 20), (true, 21), (true, 22), (true, 23), (true, 24), (true, 25), (true, 26), (true, 27), (true, 28), (true, 29), (true, 30), (true, 31), (true, 32), (true, 33)] Zk Zk ?_
  refine Xf 3 rfl u62 rfl sz60 ?_
  refine Xl rfl u60 rfl (at_ownL (vs := (flV8 (rewF (stF (takeAll (feedsF qs))).hs (rqF (titN ti) rs))[k] (.slice A4 (rewF (stF (takeAll (feedsF qs))).hs (rqF (titN ti) rs))[k].subs.length c4))) (by first | exact .head _ | exact .tail _ (.head _) | exact List.mem_append_right _ (.head _) | exact List.mem_append_right _ (.tail _ (.head _)) | exact List.mem_append_right _ (.tail _ (.tail _ (.head _))) | exact List.mem_append_right _ (.tail _ (.tail _ (.tail _ (.head _)))) | exact .tail _ (.tail _ (List.mem_append_right _ (.head _))) | exact .tail _ (.tail _ (List.mem_append_right _ (.tail _ (.head _)))) | exact List.mem_append_right _ (.tail _ (.tail _ (.tail _ (.tail _ (.head _)))))) rfl) ?_
  refine Xv (v := Vi ((rewF (stF (takeAll (feedsF qs))).hs (rqF (titN ti) rs))[k].subs.length : Nat)) rfl (v_len_slice u60 rfl) ?_
  refine Xb rfl (v_neq rfl rfl) fun b129 hb129 => ?_
  obtain rfl : b129 = false := hb129.trans (by simp [hly])
  refine Xm ?_
  refine x_valg rfl rfl rfl rfl rfl (v_fieldAddr (off' := 3) u62 rfl sz60 (by decide) rfl rfl) ?_
  refine x_valg rfl rfl rfl rfl rfl (v_load u60 rfl rfl (at_ownL (vs := (flV8 (rewF (stF (takeAll (feedsF qs))).hs (rqF (titN ti) rs))[k] (.slice A4 (rewF (stF (takeAll (feedsF qs))).hs (rqF (titN ti) rs))[k].subs.length c4))) (by first | exact .head _ | exact .tail _ (.head _) | exact List.mem_append_right _ (.head _) | exact List.mem_append_right _ (.tail _ (.head _)) | exact List.mem_append_right _ (.tail _ (.tail _ (.head _))) | exact List.mem_append_right _ (.tail _ (.tail _ (.tail _ (.head _)))) | exact .tail _ (.tail _ (List.mem_append_right _ (.head _))) | exact .tail _ (.tail _ (List.mem_append_right _ (.tail _ (.head _)))) | exact List.mem_append_right _ (.tail _ (.tail _ (.tail _ (.tail _ (.head _)))))) rfl)) ?_
  refine x_valg rfl rfl rfl rfl rfl (v_indexAddr (j := 0) u60 sz67 (congrArg (fun A => some (Value.slice A (rewF (stF (takeAll (feedsF qs))).hs (rqF (titN ti) rs))[k].subs.length c4)) hA4) rfl (by rw [hly]; decide) rfl) ?_
  refine x_valg rfl rfl rfl rfl rfl (v_fieldAddr u67 rfl sz9 (by decide) rfl rfl) ?_
  refine x_valg rfl rfl rfl rfl rfl (v_load u9 rfl rfl (at_ro (.head _) hD4 (v := Value.string (nameF (stF (takeAll (feedsF qs))).hs (resolveF (stF (takeAll (feedsF qs))).hs (wordsP (ttlR (rqF (titN ti) rs))) (findF (stF (takeAll (feedsF qs))).hs (joinS (txtA (rqF (titN ti) rs)[k].subs))).1).1).1) (hc4 0 (by show 0 < 3; decide) 1 (by show 1 < 2; decide)))) ?_
  refine x_valg rfl rfl rfl rfl rfl (v_move rfl) ?_
  refine x_boolg rfl rfl rfl rfl rfl (v_sneq rfl rfl) fun b137 hb137 => ?_
  obtain rfl : b137 = false := hb137.trans (by simp)
  refine Xb rfl (v_or rfl rfl) fun b138 hb138 => ?_
  obtain rfl : b138 = false := hb138
  refine Xm ?_
  refine x_valg rfl rfl rfl rfl rfl (v_fieldAddr (off' := 3) u62 rfl sz60 (by decide) rfl rfl) ?_
  refine x_valg rfl rfl rfl rfl rfl (v_load u60 rfl rfl (at_ownL (vs := (flV8 (rewF (stF (takeAll (feedsF qs))).hs (rqF (titN ti) rs))[k] (.slice A4 (rewF (stF (takeAll (feedsF qs))).hs (rqF (titN ti) rs))[k].subs.length c4))) (by first | exact .head _ | exact .tail _ (.head _) | exact List.mem_append_right _ (.head _) | exact List.mem_append_right _ (.tail _ (.head _)) | exact List.mem_append_right _ (.tail _ (.tail _ (.head _))) | exact List.mem_append_right _ (.tail _ (.tail _ (.tail _ (.head _)))) | exact .tail _ (.tail _ (List.mem_append_right _ (.head _))) | exact .tail _ (.tail _ (List.mem_append_right _ (.tail _ (.head _)))) | exact List.mem_append_right _ (.tail _ (.tail _ (.tail _ (.tail _ (.head _)))))) rfl)) ?_
  refine x_valg rfl rfl rfl rfl rfl (v_indexAddr (j := 1) u60 sz67 (congrArg (fun A => some (Value.slice A (rewF (stF (takeAll (feedsF qs))).hs (rqF (titN ti) rs))[k].subs.length c4)) hA4) rfl (by rw [hly]; decide) rfl) ?_
  refine x_valg rfl rfl rfl rfl rfl (v_loadN (vs := sbC sbD) u67 rfl sz67 rfl (fun i hi => at_ro (.head _) hD4 (hc4 1 (by show 1 < 3; decide) i hi))) ?_
  refine x_valg rfl rfl rfl rfl rfl (v_fieldAddr (off' := 3) u62 rfl sz60 (by decide) rfl rfl) ?_
  refine x_valg rfl rfl rfl rfl rfl (v_load u60 rfl rfl (at_ownL (vs := (flV8 (rqF (titN ti) rs)[k] (.slice A3 (rqF (titN ti) rs)[k].subs.length c3))) (by first | exact .head _ | exact .tail _ (.head _) | exact List.mem_append_right _ (.head _) | exact List.mem_append_right _ (.tail _ (.head _)) | exact List.mem_append_right _ (.tail _ (.tail _ (.head _))) | exact List.mem_append_right _ (.tail _ (.tail _ (.tail _ (.head _)))) | exact .tail _ (.tail _ (List.mem_append_right _ (.head _))) | exact .tail _ (.tail _ (List.mem_append_right _ (.tail _ (.head _)))) | exact List.mem_append_right _ (.tail _ (.tail _ (.tail _ (.tail _ (.head _)))))) rfl)) ?_
  refine x_valg rfl rfl rfl rfl rfl (v_indexAddr (j := 1) u60 sz67 (congrArg (fun A => some (Value.slice A (rqF (titN ti) rs)[k].subs.length c3)) hA3) rfl (by rw [h2]; decide) rfl) ?_
  refine x_valg rfl rfl rfl rfl rfl (v_loadN (vs := sbC sbD) u67 rfl sz67 rfl (fun i hi => at_ro (.tail _ (.head _)) hD3 (hc3 1 (by show 1 < 2; decide) i hi))) ?_
  refine x_boolg rfl rfl rfl rfl rfl (v_neA Zk rfl rfl (fun w1 => eqSB w1 sbD sbD)) fun b148 hb148 => ?_
  obtain rfl : b148 = false := hb148.trans (by simp)
  refine Xb rfl (v_or rfl rfl) fun b149 hb149 => ?_
  obtain rfl : b149 = false := hb149
  refine Xm ?_
  refine x_valg rfl rfl rfl rfl rfl (v_fieldAddr (off' := 3) u62 rfl sz60 (by decide) rfl rfl) ?_
  refine x_valg rfl rfl rfl rfl rfl (v_load u60 rfl rfl (at_ownL (vs := (flV8 (rewF (stF (takeAll (feedsF qs))).hs (rqF (titN ti) rs))[k] (.slice A4 (rewF (stF (takeAll (feedsF qs))).hs (rqF (titN ti) rs))[k].subs.length c4))) (by first | exact .head _ | exact .tail _ (.head _) | exact List.mem_append_right _ (.head _) | exact List.mem_append_right _ (.tail _ (.head _)) | exact List.mem_append_right _ (.tail _ (.tail _ (.head _))) | exact List.mem_append_right _ (.tail _ (.tail _ (.tail _ (.head _)))) | exact .tail _ (.tail _ (List.mem_append_right _ (.head _))) | exact .tail _ (.tail _ (List.mem_append_right _ (.tail _ (.head _)))) | exact List.mem_append_right _ (.tail _ (.tail _ (.tail _ (.tail _ (.head _)))))) rfl)) ?_
  refine x_valg rfl rfl rfl rfl rfl (v_indexAddr (j := 2) u60 sz67 (congrArg (fun A => some (Value.slice A (rewF (stF (takeAll (feedsF qs))).hs (rqF (titN ti) rs))[k].subs.length c4)) hA4) rfl (by rw [hly]; decide) rfl) ?_
  refine x_valg rfl rfl rfl rfl rfl (v_loadN (vs := sbC ⟨48, itoaS (resolveF (stF (takeAll (feedsF qs))).hs (wordsP (ttlR (rqF (titN ti) rs))) (findF (stF (takeAll (feedsF qs))).hs (joinS (txtA (rqF (titN ti) rs)[k].subs))).1).1⟩) u67 rfl sz67 rfl (fun i hi => at_ro (.head _) hD4 (hc4 2 (by show 2 < 3; decide) i hi))) ?_
  refine x_valg rfl rfl rfl rfl rfl (v_move rfl) ?_
  refine x_callvg rfl rfl rfl rfl rfl Tryz.func15 Zk rfl (fun w1 hw1 => r_Decimal _ w1 (by omega) hin2) ?_
  refine x_valg (v := Value.agg (sbC ⟨48, itoaS (resolveF (stF (takeAll (feedsF qs))).hs (wordsP (ttlR (rqF (titN ti) rs))) (findF (stF (takeAll (feedsF qs))).hs (joinS (txtA (rqF (titN ti) rs)[k].subs))).1).1⟩).toArray) rfl rfl rfl rfl rfl (v_buildL (cs := sbC ⟨48, itoaS (resolveF (stF (takeAll (feedsF qs))).hs (wordsP (ttlR (rqF (titN ti) rs))) (findF (stF (takeAll (feedsF qs))).hs (joinS (txtA (rqF (titN ti) rs)[k].subs))).1).1⟩) (places := [(0, 1), (1, 1)]) u67 zr67 Zk rfl rfl) ?_
  refine x_boolg rfl rfl rfl rfl rfl (v_neA Zk rfl rfl (fun w1 => eqSB w1 ⟨48, itoaS (resolveF (stF (takeAll (feedsF qs))).hs (wordsP (ttlR (rqF (titN ti) rs))) (findF (stF (takeAll (feedsF qs))).hs (joinS (txtA (rqF (titN ti) rs)[k].subs))).1).1⟩ ⟨48, itoaS (resolveF (stF (takeAll (feedsF qs))).hs (wordsP (ttlR (rqF (titN ti) rs))) (findF (stF (takeAll (feedsF qs))).hs (joinS (txtA (rqF (titN ti) rs)[k].subs))).1).1⟩)) fun b158 hb158 => ?_
  obtain rfl : b158 = false := hb158.trans (by simp)
  refine Xb rfl (v_or rfl rfl) fun b159 hb159 => ?_
  obtain rfl : b159 = false := hb159
  refine Ze (Zt ?_)
  refine w_cond rfl (fun hc159 => ?_) fun hc159 => ?_
  ·cases hc159
  skip
  refine w_skip (b_norm (Zt (Zr ?_)))
  refine Xm ?_
  refine Xv rfl (v_addi rfl rfl rfl Zo) ?_
  refine Xa ?_
  refine Ze ?_
  exact l_norm (k + 1, xc) ⟨hkl, hxc, pxc⟩ (by simp only; omega) Zu (fun _ h => h.less ((List.Sublist.refl _).append ((((List.Sublist.refl _).cons _).cons _).cons _)) (fun _ h => h))
 skip
 refine w_exit ?_
 refine t_exit ?_
 refine t_exit ?_
 refine b_hit ?_
 refine Zt (Zs (Zr ?_))
 refine Xm ?_
 refine Xa ?_
 refine Ze (Zt (w_ret ?_))
 exact ret1 rfl rfl (fun w' hm => ⟨rfl, hm.base (w0 := w) (by first | exact .head _ | exact .tail _ (.head _) | exact .tail _ (.tail _ (.head _)) | exact .tail _ (.tail _ (.tail _ (.head _))))⟩)
end Go.Proofs.YtnflcekodobdlaaGreatDoor
