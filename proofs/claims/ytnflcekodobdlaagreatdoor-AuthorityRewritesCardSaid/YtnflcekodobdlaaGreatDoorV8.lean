/- Of the proofs of YtnflcekodobdlaaGreatDoor: Fd Fe Gb Gc Gd Ge Gf Fh Fi Gg Gh Gi Gj Gk Gl Xx, put together. -/
import Derived.Test.YtnflcekodobdlaaGreatDoorV7
import Derived.Test.YtnflcekodobdlaaGreatDoorV3
import Derived.Test.YtnflcekodobdlaaGreatDoorV1
import Derived.Test.YtnflcekodobdlaaGreatDoorV5
import Derived.Lay
import Derived.LaidSub
import Derived.Lib.LaidTab
import Derived.Stop.LaidErr
import Derived.Deep.DeepHandedRow
import Derived.SevenTiedAt
import Derived.Test.YtnflcekodobdlaaGreatDoorV2
import Derived.Test.YtnflcekodobdlaaGreatDoorV4
import Derived.Test.YtnflcekodobdlaaGreatDoorV6
set_option linter.unusedVariables false
set_option linter.unusedSimpArgs false
set_option maxRecDepth 100000

namespace Go.Proofs.YtnflcekodobdlaaGreatDoor
open Go.RowKit Go.PK
attribute [local irreducible] WX
theorem eqSB (w : World) (a c : Sb) : (Op.equalIn 10000 67 (.agg (sbC a).toArray) (.agg (sbC c).toArray)).run Tryz.prog w = .ok (decide (a = c)) w := by
 have hf : (Tryz.prog.fieldsOf 67).toList = [⟨ "Code", 5, 0, false, "", "", 0⟩, ⟨ "Text", 9, 1, false, "", "", 8⟩] := by kernel_rfl
 rw [run_equalIn_struct w 9999 67 _ _ Zk Zk, hf]
 simp only [Op.eqFields, part, sbC]
 obtain ⟨a1, a2⟩ := a
 obtain ⟨b1, b2⟩ := c
 simp [run_isAgg u5, run_isAgg u9, aggT, run_equalIn_int w 9998 5 .u8 .u8 _ _ u5, run_equalIn_string w 9998 9 _ _ u9, toList_eq, Sb.mk.injEq]
 have hu : ((a1.toNat : Int) = (b1.toNat : Int)) ↔ a1 = b1 := by rw [Int.ofNat_inj]; exact UInt8.toNat_inj
 by_cases h1 : a1 = b1 <;> by_cases h2 : a2 = b2 <;> simp [h1, h2, hu]
theorem ex_in : ∀ f ∈ exF, inFD f := by
 intro f hf
 simp only [exF, List.mem_cons, List.not_mem_nil, or_false] at hf
 rcases hf with rfl | rfl | rfl | rfl | rfl | rfl <;> (unfold inFD in64; decide +kernel)
theorem ex7_in : inFD ex7 := by unfold inFD in64; decide +kernel
theorem hs8_id : ∀ h ∈ (stF exF).hs, h.id < 1000000000000000000 := by
 rw [stF_of ex_st]
 intro h hh
 simp only [hs8, List.mem_cons, List.not_mem_nil, or_false] at hh
 rcases hh with rfl | rfl | rfl <;> (dsimp only; omega)
theorem exG_ok : ∀ f ∈ exG, smFl f ∧ okFl f ∧ ∀ s ∈ f.subs, s.code = 48 → s.text.size ≤ 18 := by
 intro f hf
 simp only [exG, List.mem_cons, List.not_mem_nil, or_false] at hf
 rcases hf with rfl | rfl <;> refine ⟨⟨by decide, by decide⟩, ⟨⟨?_, ?_, ?_⟩, ?_⟩, by decide⟩ <;> (try unfold okS) <;> (first | decide +kernel | (intro s hs; rw [List.mem_singleton.1 hs]; decide +kernel))
set_option maxHeartbeats 400000 in
theorem c_sanity (w : World) (hL : LD w) :
  Calls Tryz.prog 14 #[] w fun e w' => e = .returned (.bool (true)) ∧ Later w w' := by
 refine enter (vs := []) Tryz.func14 rfl Tryz.ntmps14 rfl ?_
 refine Zs (Zr ?_)
 refine Xa ?_
 refine Ze (Zt (Zs (Zr ?_)))
 refine x_own (τ := RowS) (fun R => rowV R 6) (fun R => rowOK 6 R exF.length (fdsC exF)) (fun R => rowO 28 R) rfl rfl rfl Tryz.func38 Zk rfl (fun w1 hw1 => (c_ex w1).mono fun e w2 ⟨R, h1, h2, h3⟩ => ⟨R, h1, h3.base (by simp), h2, hw1.join h3⟩) fun R0 hR0 => ?_
 refine x_own (τ := FM8) (fun x => Pt x.pf) (fun x => FOK x exF) (fun x => FO x exF) rfl rfl rfl Tryz.func24 Zk rfl (fun w1 hw1 => by
  have h := c_taken (l := exF) w1 (hw1.rowR hR0 (fun q hq => hq)) (by show 6 ≤ 100000; omega) ex_in (hL.later (hw1.base (by simp)))
  rw [ex_all] at h
  exact h.mono fun e w2 ⟨x, h1, h2, h3⟩ => ⟨x, h1, h3.base (by simp), h2, hw1.join h3⟩) ?_
 intro x0 hx0
 refine x_mem (fun _ h => h.to (List.append_nil _).symm) ?_
 refine Xa ?_
 refine Ze (Zt (Zs (Zr ?_)))
 refine Xm ?_
 refine x_turn (τ := FM8) (fst := #[]) (cap := #[]) (v := .tuple #[Vi 1, .bool true]) (fun y => FOK y exF ∧ y.pf = x0.pf) (fun y => FO y exF ++ []) rfl rfl rfl Tryz.func19 Zk rfl (fun w1 hw1 => by
  simp only [Array.empty_append, Array.append_empty]
  have h := k_Find (t := ⟨#[67, 76, 69, 77, 69, 78, 83, 44, 32, 83, 97, 109, 117, 101, 108]⟩) (L := []) hx0 (by decide +kernel) (.head _) hL (hw1.to (by simp))
  rw [ex_find'] at h
  exact h) ?_
 rintro x1 ⟨hx1, px1⟩
 refine Xm ?_
 refine Xe ?_
 refine Xb rfl (v_extract rfl rfl) fun b18 hb18 => ?_
 obtain rfl : b18 = true := hb18
 refine Xa ?_
 refine Xa ?_
 refine Ze (Zt (Zs (Zr ?_)))
 refine Xm ?_
 refine x_turn (τ := FM8) (fst := #[]) (cap := #[]) (v := .tuple #[Vi 2, .bool true]) (fun y => FOK y exF ∧ y.pf = x0.pf) (fun y => FO y exF ++ []) rfl rfl rfl Tryz.func18 Zk rfl (fun w1 hw1 => by
  simp only [Array.empty_append, Array.append_empty]
  have h := k_Resolve (h := 1) (t := ⟨#[84, 111, 109, 32, 83, 97, 119, 121, 101, 114]⟩) (L := []) hx1 (by unfold in64; omega) (by decide +kernel) (.head _) hL (hw1.to (by simp))
  rw [ex_r1'] at h
  rw [px1] at h
  exact h) ?_
 rintro x2 ⟨hx2, px2⟩
 refine Xm ?_
 refine Xe ?_
 refine Xb rfl (v_extract rfl rfl) fun b23 hb23 => ?_
 obtain rfl : b23 = true := hb23
 refine Xa ?_
 refine Xa ?_
 refine Ze (Zt (Zs (Zr ?_)))
 refine Xm ?_
 refine x_turn (τ := FM8) (fst := #[]) (cap := #[]) (v := .tuple #[Vi 3, .bool true]) (fun y => FOK y exF ∧ y.pf = x0.pf) (fun y => FO y exF ++ []) rfl rfl rfl Tryz.func18 Zk rfl (fun w1 hw1 => by
  simp only [Array.empty_append, Array.append_empty]
  have h := k_Resolve (h := 1) (t := ⟨#[79, 108, 100, 32, 115, 111, 110, 103, 115]⟩) (L := []) hx2 (by unfold in64; omega) (by decide +kernel) (.head _) hL (hw1.to (by simp))
  rw [ex_r2'] at h
  rw [px2] at h
  exact h) ?_
 rintro x3 ⟨hx3, px3⟩
 refine Xm ?_
 refine Xe ?_
 refine Xb rfl (v_extract rfl rfl) fun b28 hb28 => ?_
 obtain rfl : b28 = true := hb28
 refine Xa ?_
 refine Xa ?_
 refine Ze (Zt (Zs (Zr ?_)))
 refine Xm ?_
 refine Xv (v := Value.agg ((sbC ⟨97, ⟨#[116, 119, 97, 105, 110, 32, 109]⟩⟩)).toArray) rfl (v_buildL (cs := (sbC ⟨97, ⟨#[116, 119, 97, 105, 110, 32, 109]⟩⟩)) (places := [(0, 1), (1, 1)]) u67 zr67 Zk rfl rfl) ?_
 refine x_buildSliceL (cs := (sbC ⟨97, ⟨#[116, 119, 97, 105, 110, 32, 109]⟩⟩)) rfl rfl rfl u60 sz67 zr67 rfl rfl rfl ?_
 intro p31
 refine Xv (v := Value.agg ([Value.string ⟨#[55, 48, 48]⟩, .string ⟨#[49, 32]⟩, .string ⟨#[]⟩, Value.slice (some ⟨p31, 0, none⟩) 1 1]).toArray) rfl (v_buildL (cs := [Value.string ⟨#[55, 48, 48]⟩, .string ⟨#[49, 32]⟩, .string ⟨#[]⟩, Value.slice (some ⟨p31, 0, none⟩) 1 1]) (places := [(0, 1), (1, 1), (2, 1), (3, 1)]) u62 zr62 Zk rfl rfl) ?_
 refine Xv (v := Value.agg ((sbC ⟨97, ⟨#[84, 111, 109, 32, 83, 97, 119, 121, 101, 114]⟩⟩)).toArray) rfl (v_buildL (cs := (sbC ⟨97, ⟨#[84, 111, 109, 32, 83, 97, 119, 121, 101, 114]⟩⟩)) (places := [(0, 1), (1, 1)]) u67 zr67 Zk rfl rfl) ?_
 refine x_buildSliceL (cs := (sbC ⟨97, ⟨#[84, 111, 109, 32, 83, 97, 119, 121, 101, 114]⟩⟩)) rfl rfl rfl u60 sz67 zr67 rfl rfl rfl ?_
 intro p34
 refine Xv (v := Value.agg ([Value.string ⟨#[50, 52, 53]⟩, .string ⟨#[49, 48]⟩, .string ⟨#[]⟩, Value.slice (some ⟨p34, 0, none⟩) 1 1]).toArray) rfl (v_buildL (cs := [Value.string ⟨#[50, 52, 53]⟩, .string ⟨#[49, 48]⟩, .string ⟨#[]⟩, Value.slice (some ⟨p34, 0, none⟩) 1 1]) (places := [(0, 1), (1, 1), (2, 1), (3, 1)]) u62 zr62 Zk rfl rfl) ?_
 refine x_buildSliceL (cs := ([Value.string ⟨#[55, 48, 48]⟩, .string ⟨#[49, 32]⟩, .string ⟨#[]⟩, Value.slice (some ⟨p31, 0, none⟩) 1 1]) ++ [Value.string ⟨#[50, 52, 53]⟩, .string ⟨#[49, 48]⟩, .string ⟨#[]⟩, Value.slice (some ⟨p34, 0, none⟩) 1 1]) rfl rfl rfl u49 sz62 zr62 rfl rfl rfl ?_
 intro p36
 refine Xv (v := Value.agg ([Value.int .u8 0, Value.int .u8 0, Value.slice (some ⟨p36, 0, none⟩) 2 2]).toArray) rfl (v_buildL (cs := [Value.int .u8 0, Value.int .u8 0, Value.slice (some ⟨p36, 0, none⟩) 2 2]) (places := [(0, 1), (1, 1), (2, 1)]) u51 zr51 Zk rfl rfl) ?_
 refine x_fix (FO x3 exF ++ []) ((((List.sublist_cons_self _ _).trans (List.sublist_cons_self _ _)).trans (List.sublist_cons_self _ _))) fun w5 hw5 => ?_
 have hno5 : ∀ p, p ∈ [(Bk p36 (([Value.string ⟨#[55, 48, 48]⟩, .string ⟨#[49, 32]⟩, .string ⟨#[]⟩, Value.slice (some ⟨p31, 0, none⟩) 1 1]) ++ [Value.string ⟨#[50, 52, 53]⟩, .string ⟨#[49, 48]⟩, .string ⟨#[]⟩, Value.slice (some ⟨p34, 0, none⟩) 1 1]) 62), (Bk p34 (sbC ⟨97, ⟨#[84, 111, 109, 32, 83, 97, 119, 121, 101, 114]⟩⟩) 67), (Bk p31 (sbC ⟨97, ⟨#[116, 119, 97, 105, 110, 32, 109]⟩⟩) 67)] → notOwn (FO x3 exF ++ []) p.1 := fun p hp => hw5.notIn (l1 := [(Bk p36 (([Value.string ⟨#[55, 48, 48]⟩, .string ⟨#[49, 32]⟩, .string ⟨#[]⟩, Value.slice (some ⟨p31, 0, none⟩) 1 1]) ++ [Value.string ⟨#[50, 52, 53]⟩, .string ⟨#[49, 48]⟩, .string ⟨#[]⟩, Value.slice (some ⟨p34, 0, none⟩) 1 1]) 62), (Bk p34 (sbC ⟨97, ⟨#[84, 111, 109, 32, 83, 97, 119, 121, 101, 114]⟩⟩) 67), (Bk p31 (sbC ⟨97, ⟨#[116, 119, 97, 105, 110, 32, 109]⟩⟩) 67)]) (.refl _) hp
 have hg5 : sliceRd tyFl (notOwn (FO x3 exF ++ [])) w5 (Value.slice (some ⟨p36, 0, none⟩) 2 2) exG := by
  have h := fe_rd (TF := 62) (T := 67) (es := [(⟨exG[0], Value.slice (some ⟨p31, 0, none⟩) 1 1, some (p31, (sbC ⟨97, ⟨#[116, 119, 97, 105, 110, 32, 109]⟩⟩), 1)⟩ : FE), (⟨exG[1], Value.slice (some ⟨p34, 0, none⟩) 1 1, some (p34, (sbC ⟨97, ⟨#[84, 111, 109, 32, 83, 97, 119, 121, 101, 114]⟩⟩), 1)⟩ : FE)]) (C := some (p36, ([Value.string ⟨#[55, 48, 48]⟩, .string ⟨#[49, 32]⟩, .string ⟨#[]⟩, Value.slice (some ⟨p31, 0, none⟩) 1 1]) ++ [Value.string ⟨#[50, 52, 53]⟩, .string ⟨#[49, 48]⟩, .string ⟨#[]⟩, Value.slice (some ⟨p34, 0, none⟩) 1 1], 2)) (D := fun _ => True) (D' := notOwn (FO x3 exF ++ [])) hw5 (.head _) ⟨rfl, (by show 2 ≤ 2; decide), (by show 2 ≤ maxLen; simp only [maxLen]; omega), rfl, rfl⟩ (fun e he => by
    rcases List.mem_cons.1 he with rfl | he
    ·exact ⟨.inr ⟨rfl, rfl, (by show 1 ≤ 1; decide), (by show 1 ≤ maxLen; simp only [maxLen]; omega), rfl, rfl⟩, (exG_ok _ (.head _)).2.1⟩
    rw [List.mem_singleton.1 he]
    exact ⟨.inr ⟨rfl, rfl, (by show 1 ≤ 1; decide), (by show 1 ≤ maxLen; simp only [maxLen]; omega), rfl, rfl⟩, (exG_ok _ (.tail _ (.head _))).2.1⟩) (fun p hp => by rw [List.mem_singleton.1 hp]; exact .head _)
   (fun e he p hp => by
    rcases List.mem_cons.1 he with rfl | he
    ·rw [List.mem_singleton.1 hp]; exact .tail _ (.tail _ (.head _))
    rw [List.mem_singleton.1 he] at hp; rw [List.mem_singleton.1 hp]; exact .tail _ (.head _))
   (fun k hk hlt p hp he => by have h9 := hw5.apart p (.tail _ (.tail _ (.tail _ hp))) _ (.head _) trivial; simp only at h9; omega)
   (fun e he p hp => by
    rcases List.mem_cons.1 he with rfl | he
    ·exact hno5 p (by rw [List.mem_singleton.1 hp]; exact .tail _ (.tail _ (.head _)))
    rw [List.mem_singleton.1 he] at hp; exact hno5 p (by rw [List.mem_singleton.1 hp]; exact .tail _ (.head _)))
   (fun p hp => hno5 p (by rw [List.mem_singleton.1 hp]; exact .head _))
  exact h
 refine x_turn_n (τ := FM8) (fun y v wA wB => (FOK y exF ∧ y.pf = x0.pf) ∧ ∃ v', v = .agg #[.int .u8 0, .int .u8 0, v'] ∧ sliceRd tyFl (notOwn (FO y exF ++ [])) wB v' exG2) (fun y => FO y exF ++ []) rfl rfl Tryz.func28 Zk rfl (fun w1 hw1 => by
  have h := k_Rewrite (L := []) (kd := 0) (lv := 0) hx3 hs8_id (.head _) hg5 (fun h => by cases h) (by show 2 ≤ 100000; omega) exG_ok (.tail _ (.head _)) hL hw1
  rw [px3] at h
  refine h.mono fun e w2 ⟨y, v', h1, ⟨h2, h3⟩, h4, h5⟩ => ⟨_, h1, y, ⟨⟨h2, h3⟩, v', rfl, ?_⟩, h5⟩
  rw [stF_of ex_st, ex_rew] at h4
  exact h4) ?_
 rintro v38 x4 w6 w7 hw6 ⟨⟨hx4, px4⟩, v', rfl, hrd⟩ hw7
 obtain ⟨A2, c2, rfl, hl2c, hmx2, _⟩ := id hrd
 obtain ⟨b2, o2, vs2, rfl, hD2, hc2, hs2, _⟩ := fl8_at hrd (k := 0) (by decide)
 obtain ⟨A3, c3, rfl, hl3c, hmx3, _⟩ := id hs2
 obtain ⟨b3, o3, rfl, hD3, hc3⟩ := sb8_at hs2 (k := 0) (by decide)
 obtain ⟨b4, o4, e4, _, hc4⟩ := sb8_at hs2 (k := 1) (by decide)
 injection e4 with e4
 injection e4 with e5 e6
 subst e5 e6
 refine x_alloc rfl rfl rfl zr51 ?_
 intro p8
 refine x_store0 [] rfl rfl rfl rfl sz51 rfl rfl ?_
 refine Ze (Zt (Zs (Zr ?_)))
 refine Xm ?_
 refine Xv (v := Value.agg (ex7).cells.toArray) rfl (v_buildL (cs := (ex7).cells) (places := [(0, 1), (1, 1), (2, 1), (3, 1), (4, 1), (5, 1)]) u28 zr28 Zk rfl rfl) ?_
 refine x_mem (own' := FO x4 exF ++ [(Bk p8 [Value.int .u8 0, Value.int .u8 0, Value.slice (some ⟨b2, o2, none⟩) exG2.length c2] 51)]) (fun _ h => (h.perm (List.perm_append_comm (l₁ := [(Bk p8 [Value.int .u8 0, Value.int .u8 0, Value.slice (some ⟨b2, o2, none⟩) exG2.length c2] 51)]) (l₂ := FO x4 exF ++ []))).to (by rw [List.append_nil])) ?_
 refine x_turn (τ := FM8) (fst := #[]) (cap := #[]) (v := Vi 0) (fun y => FOK y (exF ++ [ex7]) ∧ y.pf = x0.pf) (fun y => FO y (exF ++ [ex7]) ++ [(Bk p8 [Value.int .u8 0, Value.int .u8 0, Value.slice (some ⟨b2, o2, none⟩) exG2.length c2] 51)]) rfl rfl rfl Tryz.func17 Zk rfl (fun w1 hw1 => by
  simp only [Array.empty_append, Array.append_empty]
  have h := k_Take (f := ex7) (L := [(Bk p8 [Value.int .u8 0, Value.int .u8 0, Value.slice (some ⟨b2, o2, none⟩) exG2.length c2] 51)]) hx4 ex7_in (.tail _ (.tail _ (.head _))) hL hw1
  rw [ex_take7, px4] at h
  exact h) ?_
 rintro x5 ⟨hx5, px5⟩
 refine Xa ?_
 refine Ze (Zt (Zs (Zr ?_)))
 refine Xm ?_
 refine x_turnV (τ := RowS × FM8) (fst := #[]) (cap := #[]) (fun z => rowV z.1 1) (fun z => rowOK 6 z.1 [ex7].length (fdsC [ex7]) ∧ FOK z.2 (exF ++ [ex7])) (fun z => FO z.2 (exF ++ [ex7]) ++ (rowO 28 z.1 ++ [(Bk p8 [Value.int .u8 0, Value.int .u8 0, Value.slice (some ⟨b2, o2, none⟩) exG2.length c2] 51)])) rfl rfl rfl Tryz.func20 Zk rfl (fun w1 hw1 => by
  simp only [Array.empty_append, Array.append_empty]
  have h := k_Refused (L := [(Bk p8 [Value.int .u8 0, Value.int .u8 0, Value.slice (some ⟨b2, o2, none⟩) exG2.length c2] 51)]) hx5 (.tail _ (.tail _ (.head _))) hL hw1
  rw [show (stF (exF ++ [ex7])).ref = [ex7] from by rw [stF_of ex_st7], px5] at h
  exact h.mono fun e w2 ⟨R, h1, h2, y, ⟨h3, _⟩, h4⟩ => ⟨(R, y), h1, ⟨h2, h3⟩, h4⟩) ?_
 rintro ⟨R7, x6⟩ ⟨hR7, hx6⟩
 obtain ⟨g7, cs7, c7, hRg7, hcp7, hc7⟩ := fd_cell (fs := [ex7]) hR7 (k := 0) (by decide)
 refine Xa ?_
 refine Ze (Zt (Zs (Zs (Zr ?_))))
 refine Xf 2 rfl u51 rfl sz49 ?_
 refine Xl rfl u49 rfl (at_ownL (vs := [Value.int .u8 0, Value.int .u8 0, Value.slice (some ⟨b2, o2, none⟩) exG2.length c2]) (List.mem_append_right _ (List.mem_append_right _ (.head _))) rfl) ?_
 refine Xv (v := Vi (exG2.length : Nat)) rfl (v_len_slice u49 rfl) ?_
 refine Xb rfl (v_neq rfl rfl) fun b47 hb47 => ?_
 obtain rfl : b47 = false := hb47.trans (by decide)
 refine Xm ?_
 refine x_valg rfl rfl rfl rfl rfl (v_fieldAddr (off' := 2) u51 rfl sz49 (by decide) rfl rfl) ?_
 refine x_valg rfl rfl rfl rfl rfl (v_load u49 rfl rfl (at_ownL (vs := [Value.int .u8 0, Value.int .u8 0, Value.slice (some ⟨b2, o2, none⟩) exG2.length c2]) (List.mem_append_right _ (List.mem_append_right _ (.head _))) rfl)) ?_
 refine x_valg rfl rfl rfl rfl rfl (v_indexAddr (j := 0) u49 sz62 rfl rfl (by decide) rfl) ?_
 refine x_valg rfl rfl rfl rfl rfl (v_fieldAddr u62 rfl sz60 (by decide) rfl rfl) ?_
 refine x_valg rfl rfl rfl rfl rfl (v_load u60 rfl rfl (at_ro (.head _) hD2 (v := Value.slice (some ⟨b3, o3, none⟩) exG2[0].subs.length c3) (hc2 3 (by show 3 < 4; decide)))) ?_
 refine x_valg (v := Vi (exG2[0].subs.length : Nat)) rfl rfl rfl rfl rfl (v_len_slice u60 rfl) ?_
 refine x_boolg rfl rfl rfl rfl rfl (v_neq rfl rfl) fun b55 hb55 => ?_
 obtain rfl : b55 = false := hb55.trans (by decide)
 refine Xb rfl (v_or rfl rfl) fun b56 hb56 => ?_
 obtain rfl : b56 = false := hb56
 refine Xm ?_
 refine x_valg rfl rfl rfl rfl rfl (v_move rfl) ?_
 refine x_valg (v := Vi ((1 : Nat) : Int)) rfl rfl rfl rfl rfl (v_len_slice u24 rfl) ?_
 refine x_boolg rfl rfl rfl rfl rfl (v_neq rfl rfl) fun b60 hb60 => ?_
 obtain rfl : b60 = false := hb60.trans (by decide)
 refine Xb rfl (v_or rfl rfl) fun b61 hb61 => ?_
 obtain rfl : b61 = false := hb61
 refine Ze (Zt ?_)
 refine w_cond rfl (fun hc61 => ?_) fun hc61 => ?_
 ·cases hc61
 skip
 refine w_skip (Zt (Zs (Zr ?_)))
 refine Xf 2 rfl u51 rfl sz49 ?_
 refine Xl rfl u49 rfl (at_ownL (vs := [Value.int .u8 0, Value.int .u8 0, Value.slice (some ⟨b2, o2, none⟩) exG2.length c2]) (List.mem_append_right _ (List.mem_append_right _ (.head _))) rfl) ?_
 refine Xv rfl (v_indexAddr (j := 0) u49 sz62 rfl rfl (by decide) rfl) ?_
 refine Xf _ rfl u62 rfl sz60 ?_
 refine Xl rfl u60 rfl (at_ro (.head _) hD2 (v := Value.slice (some ⟨b3, o3, none⟩) exG2[0].subs.length c3) (hc2 3 (by show 3 < 4; decide))) ?_
 refine Xa ?_
 refine Ze (Zt (Zs (Zr ?_)))
 refine Xm ?_
 refine Xm ?_
 refine x_valg rfl rfl rfl rfl rfl (v_move rfl) ?_
 refine Xb rfl (v_and rfl rfl) fun b70 hb70 => ?_
 obtain rfl : b70 = true := hb70
 refine Xm ?_
 refine x_valg rfl rfl rfl rfl rfl (v_move rfl) ?_
 refine Xb rfl (v_and rfl rfl) fun b73 hb73 => ?_
 obtain rfl : b73 = true := hb73
 refine Xm ?_
 refine x_valg rfl rfl rfl rfl rfl (v_move rfl) ?_
 refine x_boolg rfl rfl rfl rfl rfl (v_eql rfl rfl) fun b76 hb76 => ?_
 obtain rfl : b76 = true := hb76.trans (by decide)
 refine Xb rfl (v_and rfl rfl) fun b77 hb77 => ?_
 obtain rfl : b77 = true := hb77
 refine Xm ?_
 refine x_valg rfl rfl rfl rfl rfl (v_move rfl) ?_
 refine x_boolg rfl rfl rfl rfl rfl (v_eql rfl rfl) fun b80 hb80 => ?_
 obtain rfl : b80 = true := hb80.trans (by decide)
 refine Xb rfl (v_and rfl rfl) fun b81 hb81 => ?_
 obtain rfl : b81 = true := hb81
 refine Xm ?_
 refine x_valg rfl rfl rfl rfl rfl (v_move rfl) ?_
 refine x_boolg rfl rfl rfl rfl rfl (v_eql rfl rfl) fun b84 hb84 => ?_
 obtain rfl : b84 = true := hb84.trans (by decide)
 refine Xb rfl (v_and rfl rfl) fun b85 hb85 => ?_
 obtain rfl : b85 = true := hb85
 refine Xm ?_
 refine x_valg rfl rfl rfl rfl rfl (v_move rfl) ?_
 refine x_boolg rfl rfl rfl rfl rfl (v_eql rfl rfl) fun b88 hb88 => ?_
 obtain rfl : b88 = true := hb88.trans (by decide)
 refine Xb rfl (v_and rfl rfl) fun b89 hb89 => ?_
 obtain rfl : b89 = true := hb89
 refine Xm ?_
 refine x_valg rfl rfl rfl rfl rfl (v_move rfl) ?_
 refine x_valg rfl rfl rfl rfl rfl (v_indexAddr (j := 0) u24 sz28 (congrArg (fun R => some (rowV R 1)) hRg7) rfl (by decide) rfl) ?_
 refine x_valg rfl rfl rfl rfl rfl (v_fieldAddr u28 rfl sz3 (by decide) rfl rfl) ?_
 refine x_valg rfl rfl rfl rfl rfl (v_load u3 rfl rfl (at_ownL (vs := cs7) (v := Vi 7) (List.mem_append_right _ (List.mem_append_left _ (by rw [hRg7]; exact .head _))) (hc7 1 (by decide)))) ?_
 refine x_boolg rfl rfl rfl rfl rfl (v_eql rfl rfl) fun b95 hb95 => ?_
 obtain rfl : b95 = true := hb95.trans (by decide)
 refine Xb rfl (v_and rfl rfl) fun b96 hb96 => ?_
 obtain rfl : b96 = true := hb96
 refine Xm ?_
 refine x_valg rfl rfl rfl rfl rfl (v_move rfl) ?_
 refine x_valg rfl rfl rfl rfl rfl (v_indexAddr (j := 0) u60 sz67 rfl rfl (by decide) rfl) ?_
 refine x_valg rfl rfl rfl rfl rfl (v_loadN (vs := sbC (exG2[0].subs[0])) u67 rfl sz67 rfl (fun i hi => at_ro (.head _) hD3 (hc3 i hi))) ?_
 refine x_valg (v := Value.agg (sbC ⟨97, T8b⟩).toArray) rfl rfl rfl rfl rfl (v_buildL (cs := sbC ⟨97, T8b⟩) (places := [(0, 1), (1, 1)]) u67 zr67 Zk rfl rfl) ?_
 refine x_boolg rfl rfl rfl rfl rfl (v_eqA Zk rfl rfl (fun w1 => eqSB w1 (exG2[0].subs[0]) ⟨97, T8b⟩)) fun b102 hb102 => ?_
 obtain rfl : b102 = true := hb102.trans (by decide)
 refine Xb rfl (v_and rfl rfl) fun b103 hb103 => ?_
 obtain rfl : b103 = true := hb103
 refine Xm ?_
 refine x_valg rfl rfl rfl rfl rfl (v_move rfl) ?_
 refine x_valg rfl rfl rfl rfl rfl (v_indexAddr (j := 1) u60 sz67 rfl rfl (by decide) rfl) ?_
 refine x_valg rfl rfl rfl rfl rfl (v_loadN (vs := sbC (exG2[0].subs[1])) u67 rfl sz67 rfl (fun i hi => at_ro (.head _) hD3 (hc4 i hi))) ?_
 refine x_valg (v := Value.agg (sbC ⟨48, ⟨#[50]⟩⟩).toArray) rfl rfl rfl rfl rfl (v_buildL (cs := sbC ⟨48, ⟨#[50]⟩⟩) (places := [(0, 1), (1, 1)]) u67 zr67 Zk rfl rfl) ?_
 refine x_boolg rfl rfl rfl rfl rfl (v_eqA Zk rfl rfl (fun w1 => eqSB w1 (exG2[0].subs[1]) ⟨48, ⟨#[50]⟩⟩)) fun b109 hb109 => ?_
 obtain rfl : b109 = true := hb109.trans (by decide)
 refine Xb rfl (v_and rfl rfl) fun b110 hb110 => ?_
 obtain rfl : b110 = true := hb110
 refine Xa ?_
 refine Ze (Zt (w_ret ?_))
 exact ret1 rfl rfl (fun w' hm => ⟨rfl, hm.base (by simp)⟩)
end Go.Proofs.YtnflcekodobdlaaGreatDoor

namespace Go.Proofs.YtnflcekodobdlaaGreatDoor
open Go.RowKit Go.PK
attribute [local irreducible] WX
def askL : List ByteArray := [⟨#[116, 119, 97, 105, 110, 32, 77, 65, 82, 75]⟩, ⟨#[67, 108, 101, 109, 101, 110, 115]⟩, ⟨#[71, 101, 111, 114, 103, 101, 32, 69, 108, 105, 111, 116]⟩, ⟨#[101, 108, 105, 111, 116, 32, 103, 101, 111, 114, 103, 101]⟩, ⟨#[101, 118, 97, 110, 115]⟩, ⟨#[115, 111, 110, 103, 115]⟩, ⟨#[77, 117, 115, 105, 99]⟩, ⟨#[90, 111, 108, 97, 33]⟩, ⟨#[116, 119, 97, 105, 110]⟩, ⟨#[111, 102]⟩, ⟨#[]⟩, ⟨#[45]⟩]
theorem titN_sz (n : Int) : (titN n).size ≤ 20 := by
 have h1 : ∀ t ∈ titL, t.size ≤ 20 := by decide
 unfold titN
 rw [List.getD_eq_getElem?_getD]
 cases h : titL[(n % 5).toNat]? with
 | none => exact Nat.zero_le _
 | some x => exact h1 x (List.mem_of_getElem? h)
def MO8 (pm : Nat) (M : RowS) (n : Nat) : List (Nat × Obj) := (Bk pm [rowV M n] 48) :: rowO 28 M
end Go.Proofs.YtnflcekodobdlaaGreatDoor

namespace Go.Proofs.YtnflcekodobdlaaGreatDoor
open Go.RowKit Go.PK
attribute [local irreducible] WX
end Go.Proofs.YtnflcekodobdlaaGreatDoor

namespace Go.Proofs.YtnflcekodobdlaaGreatDoor
open Go.RowKit Go.PK
attribute [local irreducible] WX
end Go.Proofs.YtnflcekodobdlaaGreatDoor

namespace Go.Proofs.YtnflcekodobdlaaGreatDoor
open Go.RowKit Go.PK
attribute [local irreducible] WX
end Go.Proofs.YtnflcekodobdlaaGreatDoor

namespace Go.Proofs.YtnflcekodobdlaaGreatDoor
open Go.RowKit Go.PK
attribute [local irreducible] WX
end Go.Proofs.YtnflcekodobdlaaGreatDoor

namespace Go.Proofs.YtnflcekodobdlaaGreatDoor
open Go.RowKit Go.PK
attribute [local irreducible] WX
end Go.Proofs.YtnflcekodobdlaaGreatDoor

namespace Go.Proofs.YtnflcekodobdlaaGreatDoor
open Go.RowKit Go.PK
attribute [local irreducible] WX
theorem three3 {l : List Int} (h : l.length = 3) : ∃ q0 q1 q2, l = [q0, q1, q2] := by
 match l, h with
 | [q0, q1, q2], _ => exact ⟨q0, q1, q2, rfl⟩
structure RecW (fs : List Fl) (es : List FE) (C : RowS) : Prop where
  fs : es.map (·.f) = fs
  row : rowOK 4 C es.length (es.flatMap feC)
  ok : ∀ e ∈ es, e.v = rowV e.S e.f.subs.length ∧ rowOK 2 e.S e.f.subs.length (e.f.subs.flatMap sbC)
theorem sbC_app (l : List Sb) (s : Sb) : (l ++ [s]).flatMap sbC = l.flatMap sbC ++ sbC s := by rw [List.flatMap_append]; simp
theorem EOs_snoc (T : TypeId) (es : List FE) (e : FE) : EOs T (es ++ [e]) = EOs T es ++ rowO T e.S := by unfold EOs; rw [List.flatMap_append]; simp
theorem rec_p2 {α : Type} {p : α} {C E : List α} : (p :: (C ++ E)).Perm (C ++ (E ++ [p])) := by
 rw [← List.append_assoc]
 exact (List.perm_append_comm (l₁ := [p]))
theorem rec_p0 {α : Type} {a c d e f : α} : (a :: c :: d :: e :: f :: []).Perm (a :: c :: d :: f :: e :: []) := (((List.Perm.swap _ _ _).cons _).cons _).cons _
theorem rec_p1 {α : Type} {S C E : List α} {a c d e : α} : (S ++ (a :: c :: d :: e :: (C ++ E))).Perm (a :: c :: d :: e :: (C ++ (E ++ S))) := by
 rw [← List.append_assoc C E S]
 exact (List.perm_append_comm (l₁ := S) (l₂ := a :: c :: d :: e :: (C ++ E)))
set_option maxHeartbeats 4000000 in
theorem r_Record {A0 : Option Addr} {c0 : Nat} {qs : List (List Int)} (ti : Int) (w : World) (hti : in64 ti) (hq : sliceRd (tyArr (tyK .i64) 3) (fun _ => True) w (.slice A0 qs.length c0) qs) :
  Calls Tryz.prog 26 #[Vi ti, .slice A0 qs.length c0] w fun e w' => ∃ es C, e = .returned (.agg #[.int .u8 97, .int .u8 109, rowV C es.length]) ∧ RecW (rqF (titN ti) qs) es C ∧ Mem w' (rowO 62 C ++ EOs 67 es) [(w, fun _ => True)] := by
 refine enter (vs := [Vi ti, .slice A0 qs.length c0]) Tryz.func26 rfl Tryz.ntmps26 rfl ?_
 refine Zs (Zr ?_)
 refine x_alloc rfl rfl rfl zr51 ?_
 intro p4
 refine Ze (Zt (Zs (Zr ?_)))
 refine Xv (v := Value.agg (flV8 rq0 (.slice none 0 0)).toArray) rfl (v_buildL (cs := flV8 rq0 (.slice none 0 0)) (places := [(0, 1), (1, 1), (2, 1), (3, 1)]) u62 zr62 Zk rfl rfl) ?_
 refine x_buildSliceL (cs := flV8 rq0 (.slice none 0 0)) rfl rfl rfl u49 sz62 zr62 rfl rfl rfl ?_
 intro p12
 refine Xv (v := Value.agg [Value.int .u8 97, Value.int .u8 109, Value.slice (some ⟨p12, 0, none⟩) 1 1].toArray) rfl (v_buildL (cs := [Value.int .u8 97, Value.int .u8 109, Value.slice (some ⟨p12, 0, none⟩) 1 1]) (places := [(0, 1), (1, 1), (2, 1)]) u51 zr51 Zk rfl rfl) ?_
 refine x_alloc rfl rfl rfl zr51 ?_
 intro p5
 refine x_store0 [] rfl rfl rfl rfl sz51 rfl rfl ?_
 refine Ze (Zt (Zs (Zr ?_)))
 refine x_buildSliceL (cs := tagsR.map Value.string) rfl rfl rfl u38 sz9 zr9 rfl rfl Zk ?_
 intro p14
 refine Xa ?_
 refine Ze (Zt (Zs (Zr ?_)))
 refine x_buildSliceL (cs := namesR.map Value.string) rfl rfl rfl u38 sz9 zr9 rfl rfl Zk ?_
 intro p15
 refine Xa ?_
 refine Ze (Zt (Zs (Zs (Zr ?_))))
 refine Xa ?_
 refine Ze (Zt (w_block ?_))
 refine w_loop (σ := Nat × List FE × RowS) (fun z => z.1 ≤ qs.length ∧ z.1 ≤ 12 ∧ RecW (rqK qs z.1) z.2.1 z.2.2) (fun z => [(0, Vi ti), (1, Value.slice A0 qs.length c0), (4, Pt p4), (5, Pt p5), (6, Value.slice (some ⟨p14, 0, none⟩) 7 7), (7, Value.slice (some ⟨p15, 0, none⟩) 8 8), (8, Vi (z.1 : Nat))]) (fun z => (Bk p15 (namesR.map Value.string) 9) :: (Bk p14 (tagsR.map Value.string) 9) :: (Bk p5 [Value.int .u8 97, Value.int .u8 109, rowV z.2.2 z.2.1.length] 51) :: (Bk p4 [Value.int .u8 0, Value.int .u8 0, Value.slice none 0 0] 51) :: (rowO 62 z.2.2 ++ EOs 67 z.2.1)) (fun z => [(w, fun _ => True)]) (fun z => qs.length - z.1) ((0, [⟨rq0, .slice none 0 0, none⟩], some (p12, flV8 rq0 (.slice none 0 0), 1))) (⟨Nat.zero_le _, Nat.zero_le _, rfl, ⟨rfl, (by show 1 ≤ 1; decide), (by show 1 ≤ maxLen; simp only [maxLen]; omega), rfl, rfl⟩, fun e he => by rw [List.mem_singleton.1 he]; exact ⟨rfl, rowOK_nil⟩⟩) (l_start Zu (fun w1 h => (h.perm rec_p0).to rfl)) ?_
 rintro ⟨k, es, C⟩ ⟨hk, hk12, hW⟩
 refine w_state ([(0, Vi ti), (1, Value.slice A0 qs.length c0), (4, Pt p4), (5, Pt p5), (6, Value.slice (some ⟨p14, 0, none⟩) 7 7), (7, Value.slice (some ⟨p15, 0, none⟩) 8 8), (8, Vi (k : Nat))]) ((Bk p15 (namesR.map Value.string) 9) :: (Bk p14 (tagsR.map Value.string) 9) :: (Bk p5 [Value.int .u8 97, Value.int .u8 109, rowV C es.length] 51) :: (Bk p4 [Value.int .u8 0, Value.int .u8 0, Value.slice none 0 0] 51) :: (rowO 62 C ++ EOs 67 es)) ([(w, fun _ => True)]) ?_
 dsimp only at hk hk12 hW
 have hel : es.length = k + 1 := by have h9 := congrArg List.length hW.fs; rw [List.length_map, rqK_len hk] at h9; exact h9
 refine Zs (Zs (Zr ?_))
 refine Xm ?_
 refine Xm ?_
 refine Xv (v := Vi (qs.length : Nat)) rfl (v_len_slice u43 rfl) ?_
 refine Xb rfl (v_lss rfl rfl) fun b19 hb19 => ?_
 refine Xm ?_
 refine Xg ?_
 refine Xj rfl rfl rfl (fun hg0 => by subst hg0; (try simp only [Qy]); exact v_lss rfl rfl) fun b22 hb22 => ?_
 refine Xb rfl (v_and rfl rfl) fun b23 hb23 => ?_
 refine Ze (Zt ?_)
 refine w_cond rfl (fun hc23 => ?_) fun hc23 => ?_
 ·simp only [hb23, hb22, hb19, Qz, ne_eq] at hc23
  have hkl : k < qs.length := by omega
  have hk12b : k < 12 := by omega
  obtain ⟨b0, o0, hA0, _, hl3, hin3, hcq⟩ := q_at hq hkl
  obtain ⟨q0, q1, q2, hqe⟩ := three3 hl3
  have hfq : rqQ qs[k] = rqL q0 q1 q2 := by rw [hqe]; rfl
  rw [hqe] at hcq hin3
  have hq3 : in64 q0 ∧ in64 q1 ∧ in64 q2 := by simpa using hin3
  have hb7 : (q0 % 7).toNat < 7 := by omega
  have hb8 : (q2 % 8).toNat < 8 := by omega
  have hb4 : (q1.tdiv 12 % 4).toNat < 4 := by omega
  have hlB := rqB_len q1 q2
  have hlC := rqC_len q1 q2
  have hlA : (rqA q1 q2).length ≤ 1 := by unfold rqB at hlB; rw [List.length_append] at hlB; exact Nat.le_of_succ_le_succ hlB
  refine w_skip (Zt (Zs (w_block (Zs (Zr ?_)))))
  refine Xm ?_
  refine Xm ?_
  refine Xv rfl (v_indexAddr u43 sz106 (congrArg (fun A => some (Value.slice A qs.length c0)) hA0) rfl (hkl) rfl) ?_
  refine Xv rfl (v_loadN (vs := [Vi q0, Vi q1, Vi q2]) u106 rfl sz106 rfl (fun i hi => at_ro (.head _) trivial (hcq i hi))) ?_
  refine x_alloc rfl rfl rfl zr106 ?_
  intro p9
  refine x_store0 [] rfl rfl rfl rfl sz106 rfl rfl ?_
  refine Ze (Zt (Zs (Zr ?_)))
  refine Xm ?_
  refine Xv rfl (v_indexArr (j := 0) (off' := 0) u106 sz3 rfl rfl Zo rfl) ?_
  refine Xl rfl u3 rfl (at_ownL (vs := [Vi q0, Vi q1, Vi q2]) (v := Vi q0) (.head _) rfl) ?_
  refine x_callv (v := Vi (((q0 % 7).toNat : Nat) : Int)) rfl rfl rfl Tryz.func54 Zk rfl (fun w1 hw1 => by rw [Int.toNat_of_nonneg (Int.emod_nonneg _ (by decide))]; exact r_mod (q0) 7 w1 hq3.1 (by omega)) ?_
  refine Xv rfl (v_indexAddr u38 sz9 rfl rfl (hb7) rfl) ?_
  refine Xl rfl u9 rfl (at_ownL (vs := tagsR.map Value.string) (v := Value.string (tagsR.getD (q0 % 7).toNat ⟨#[]⟩)) (.tail _ (.tail _ (.head _))) (by rw [Nat.zero_add, Nat.mul_one, List.getElem?_map, List.getD_eq_getElem?_getD, List.getElem?_eq_getElem (show _ < tagsR.length from hb7)]; rfl)) ?_
  refine Xv (v := Value.agg [Value.string (tagsR.getD (q0 % 7).toNat ⟨#[]⟩), Value.string ⟨#[49, 32]⟩, Value.string ⟨#[]⟩, Value.slice none 0 0].toArray) rfl (v_buildL (cs := [Value.string (tagsR.getD (q0 % 7).toNat ⟨#[]⟩), Value.string ⟨#[49, 32]⟩, Value.string ⟨#[]⟩, Value.slice none 0 0]) (places := [(0, 1), (1, 1), (2, 1), (3, 1)]) u62 zr62 Zk rfl rfl) ?_
  refine x_alloc rfl rfl rfl zr62 ?_
  intro p10
  refine x_store0 [] rfl rfl rfl rfl sz62 rfl rfl ?_
  refine Ze (Zt ?_)
  refine w_seq_cut (σ := RowS) (fun S => rowOK 2 S (rqA q1 q2).length ((rqA q1 q2).flatMap sbC)) (fun S => [(0, Vi ti), (1, Value.slice A0 qs.length c0), (4, Pt p4), (5, Pt p5), (6, Value.slice (some ⟨p14, 0, none⟩) 7 7), (7, Value.slice (some ⟨p15, 0, none⟩) 8 8), (8, Vi (k : Nat)), (9, Pt p9), (10, Pt p10)]) (fun S => (Bk p10 [Value.string (tagsR.getD (q0 % 7).toNat ⟨#[]⟩), Value.string ⟨#[49, 32]⟩, Value.string ⟨#[]⟩, rowV S (rqA q1 q2).length] 62) :: (Bk p9 [Vi q0, Vi q1, Vi q2] 106) :: (rowO 67 S ++ ((Bk p15 (namesR.map Value.string) 9) :: (Bk p14 (tagsR.map Value.string) 9) :: (Bk p5 [Value.int .u8 97, Value.int .u8 109, rowV C es.length] 51) :: (Bk p4 [Value.int .u8 0, Value.int .u8 0, Value.slice none 0 0] 51) :: (rowO 62 C ++ EOs 67 es)))) (fun S => [(w, fun _ => True)]) ?_ ?_
  ·refine w_seq ?_
   refine Zr ?_
   refine Xv rfl (v_indexArr (j := 1) (off' := 1) u106 sz3 rfl rfl Zo rfl) ?_
   refine Xl rfl u3 rfl (at_ownL (vs := [Vi q0, Vi q1, Vi q2]) (v := Vi q1) (.tail _ (.head _)) rfl) ?_
   refine x_callv (v := Vi (q1 % 4)) rfl rfl rfl Tryz.func54 Zk rfl (fun w1 hw1 => r_mod (q1) 4 w1 hq3.2.1 (by omega)) ?_
   refine Xb rfl (v_gtr rfl rfl) fun b40 hb40 => ?_
   refine Ze (Zt ?_)
   refine w_cond rfl (fun hc40 => ?_) fun hc40 => ?_
   ·simp only [hb40, Qz, ne_eq] at hc40
    have hAe : rqA q1 q2 = [(⟨97, namesR.getD (q2 % 8).toNat ⟨#[]⟩⟩ : Sb)] := by unfold rqA; rw [if_pos hc40]
    refine rg_draw 10 [(true, 0), (true, 1), (true, 2), (true, 3), (true, 4), (true, 5), (true, 6), (true, 7), (true, 8), (false, 9)] Zk Zk ?_
    refine Xf 3 rfl u62 rfl sz60 ?_
    refine Xl rfl u60 rfl (at_ownL (vs := [Value.string (tagsR.getD (q0 % 7).toNat ⟨#[]⟩), Value.string ⟨#[49, 32]⟩, Value.string ⟨#[]⟩, Value.slice none 0 0]) (.head _) rfl) ?_
    refine Xm ?_
    refine Xv rfl (v_indexArr (j := 2) (off' := 2) u106 sz3 rfl rfl Zo rfl) ?_
    refine Xl rfl u3 rfl (at_ownL (vs := [Vi q0, Vi q1, Vi q2]) (v := Vi q2) (.tail _ (.head _)) rfl) ?_
    refine x_callv (v := Vi (((q2 % 8).toNat : Nat) : Int)) rfl rfl rfl Tryz.func54 Zk rfl (fun w1 hw1 => by rw [Int.toNat_of_nonneg (Int.emod_nonneg _ (by decide))]; exact r_mod (q2) 8 w1 hq3.2.2 (by omega)) ?_
    refine Xv rfl (v_indexAddr u38 sz9 rfl rfl (hb8) rfl) ?_
    refine Xl rfl u9 rfl (at_ownL (vs := namesR.map Value.string) (v := Value.string (⟨97, namesR.getD (q2 % 8).toNat ⟨#[]⟩⟩ : Sb).text) (.tail _ (.tail _ (.head _))) (by rw [Nat.zero_add, Nat.mul_one, List.getElem?_map, List.getD_eq_getElem?_getD, List.getElem?_eq_getElem (show _ < namesR.length from hb8)]; rfl)) ?_
    refine Xv (v := Value.agg (sbC (⟨97, namesR.getD (q2 % 8).toNat ⟨#[]⟩⟩ : Sb)).toArray) rfl (v_buildL (cs := sbC (⟨97, namesR.getD (q2 % 8).toNat ⟨#[]⟩⟩ : Sb)) (places := [(0, 1), (1, 1)]) u67 zr67 Zk rfl rfl) ?_
    refine x_buildSliceL (cs := sbC (⟨97, namesR.getD (q2 % 8).toNat ⟨#[]⟩⟩ : Sb)) rfl rfl rfl u60 sz67 zr67 rfl rfl rfl ?_
    intro p50
    refine x_append (e := 67) ((Bk p50 (sbC (⟨97, namesR.getD (q2 % 8).toNat ⟨#[]⟩⟩ : Sb)) 67) :: (Bk p10 [Value.string (tagsR.getD (q0 % 7).toNat ⟨#[]⟩), Value.string ⟨#[49, 32]⟩, Value.string ⟨#[]⟩, rowV none ([] : List Sb).length] 62) :: (Bk p9 [Vi q0, Vi q1, Vi q2] 106) :: []) (l2 := (Bk p15 (namesR.map Value.string) 9) :: (Bk p14 (tagsR.map Value.string) 9) :: (Bk p5 [Value.int .u8 97, Value.int .u8 109, rowV C es.length] 51) :: (Bk p4 [Value.int .u8 0, Value.int .u8 0, Value.slice none 0 0] 51) :: (rowO 62 C ++ EOs 67 es)) none (len := 0) (xs := []) rfl rfl rfl rfl rfl rowOK_nil u60 ap67 rfl rfl (m := 1) (news := sbC (⟨97, namesR.getD (q2 % 8).toNat ⟨#[]⟩⟩ : Sb)) (fun i9 hi9 => at_ownL (vs := sbC (⟨97, namesR.getD (q2 % 8).toNat ⟨#[]⟩⟩ : Sb)) (.head _) (by rw [Nat.zero_add]; exact List.getElem?_eq_getElem hi9)) rfl Zx (by omega) fun S' hS' => ?_
    refine Xf 3 rfl u62 rfl sz60 ?_
    refine x_store (cs := [Value.string (tagsR.getD (q0 % 7).toNat ⟨#[]⟩), Value.string ⟨#[49, 32]⟩, Value.string ⟨#[]⟩, rowV none ([] : List Sb).length]) (off := 3) (e := 62) (l2 := (Bk p9 [Vi q0, Vi q1, Vi q2] 106) :: (rowO 67 S' ++ ((Bk p15 (namesR.map Value.string) 9) :: (Bk p14 (tagsR.map Value.string) 9) :: (Bk p5 [Value.int .u8 97, Value.int .u8 109, rowV C es.length] 51) :: (Bk p4 [Value.int .u8 0, Value.int .u8 0, Value.slice none 0 0] 51) :: (rowO 62 C ++ EOs 67 es)))) [(Bk p50 (sbC (⟨97, namesR.getD (q2 % 8).toNat ⟨#[]⟩⟩ : Sb)) 67)] rfl rfl rfl (by simp) sz60 rfl (by show 3 + 1 ≤ 4; decide) ?_
    refine Ze ?_
    exact c_norm S' (by rw [hAe]; simpa using hS') Zu (fun w1 h => (h.less (List.sublist_cons_self _ _) (fun _ h => h)).to (by rw [hAe]; rfl))
   simp only [hb40, Qz, ne_eq] at hc40
   have hAe : rqA q1 q2 = [] := by unfold rqA; rw [if_neg hc40]
   refine w_skip ?_
   exact c_norm none (by rw [hAe]; exact rowOK_nil) Zu (fun w1 h => h.to (by rw [hAe]; rfl))
  rintro S hS
  refine w_state ([(0, Vi ti), (1, Value.slice A0 qs.length c0), (4, Pt p4), (5, Pt p5), (6, Value.slice (some ⟨p14, 0, none⟩) 7 7), (7, Value.slice (some ⟨p15, 0, none⟩) 8 8), (8, Vi (k : Nat)), (9, Pt p9), (10, Pt p10)]) ((Bk p10 [Value.string (tagsR.getD (q0 % 7).toNat ⟨#[]⟩), Value.string ⟨#[49, 32]⟩, Value.string ⟨#[]⟩, rowV S (rqA q1 q2).length] 62) :: (Bk p9 [Vi q0, Vi q1, Vi q2] 106) :: (rowO 67 S ++ ((Bk p15 (namesR.map Value.string) 9) :: (Bk p14 (tagsR.map Value.string) 9) :: (Bk p5 [Value.int .u8 97, Value.int .u8 109, rowV C es.length] 51) :: (Bk p4 [Value.int .u8 0, Value.int .u8 0, Value.slice none 0 0] 51) :: (rowO 62 C ++ EOs 67 es)))) ([(w, fun _ => True)]) ?_
  refine w_seq_cut (σ := RowS) (fun S => rowOK 2 S (rqB q1 q2).length ((rqB q1 q2).flatMap sbC)) (fun S => [(0, Vi ti), (1, Value.slice A0 qs.length c0), (4, Pt p4), (5, Pt p5), (6, Value.slice (some ⟨p14, 0, none⟩) 7 7), (7, Value.slice (some ⟨p15, 0, none⟩) 8 8), (8, Vi (k : Nat)), (9, Pt p9), (10, Pt p10)]) (fun S => (Bk p10 [Value.string (tagsR.getD (q0 % 7).toNat ⟨#[]⟩), Value.string ⟨#[49, 32]⟩, Value.string ⟨#[]⟩, rowV S (rqB q1 q2).length] 62) :: (Bk p9 [Vi q0, Vi q1, Vi q2] 106) :: (rowO 67 S ++ ((Bk p15 (namesR.map Value.string) 9) :: (Bk p14 (tagsR.map Value.string) 9) :: (Bk p5 [Value.int .u8 97, Value.int .u8 109, rowV C es.length] 51) :: (Bk p4 [Value.int .u8 0, Value.int .u8 0, Value.slice none 0 0] 51) :: (rowO 62 C ++ EOs 67 es)))) (fun S => [(w, fun _ => True)]) ?_ ?_
  ·refine rg_text ?_
   refine Xf 3 rfl u62 rfl sz60 ?_
   refine Xl rfl u60 rfl (at_ownL (vs := [Value.string (tagsR.getD (q0 % 7).toNat ⟨#[]⟩), Value.string ⟨#[49, 32]⟩, Value.string ⟨#[]⟩, rowV S (rqA q1 q2).length]) (.head _) rfl) ?_
   refine Xv (v := Value.agg (sbC sbD).toArray) rfl (v_buildL (cs := sbC sbD) (places := [(0, 1), (1, 1)]) u67 zr67 Zk rfl rfl) ?_
   refine x_buildSliceL (cs := sbC sbD) rfl rfl rfl u60 sz67 zr67 rfl rfl rfl ?_
   intro p56
   refine x_append (e := 67) ((Bk p56 (sbC sbD) 67) :: (Bk p10 [Value.string (tagsR.getD (q0 % 7).toNat ⟨#[]⟩), Value.string ⟨#[49, 32]⟩, Value.string ⟨#[]⟩, rowV S (rqA q1 q2).length] 62) :: (Bk p9 [Vi q0, Vi q1, Vi q2] 106) :: []) (l2 := (Bk p15 (namesR.map Value.string) 9) :: (Bk p14 (tagsR.map Value.string) 9) :: (Bk p5 [Value.int .u8 97, Value.int .u8 109, rowV C es.length] 51) :: (Bk p4 [Value.int .u8 0, Value.int .u8 0, Value.slice none 0 0] 51) :: (rowO 62 C ++ EOs 67 es)) S (len := (rqA q1 q2).length) (xs := (rqA q1 q2).flatMap sbC) rfl rfl rfl rfl (by simp) hS u60 ap67 rfl rfl (m := 1) (news := sbC sbD) (fun i9 hi9 => at_ownL (vs := sbC sbD) (.head _) (by rw [Nat.zero_add]; exact List.getElem?_eq_getElem hi9)) rfl Zx (by omega) fun S' hS' => ?_
   refine Xf 3 rfl u62 rfl sz60 ?_
   refine x_store (cs := [Value.string (tagsR.getD (q0 % 7).toNat ⟨#[]⟩), Value.string ⟨#[49, 32]⟩, Value.string ⟨#[]⟩, rowV S (rqA q1 q2).length]) (off := 3) (e := 62) (l2 := (Bk p9 [Vi q0, Vi q1, Vi q2] 106) :: (rowO 67 S' ++ ((Bk p15 (namesR.map Value.string) 9) :: (Bk p14 (tagsR.map Value.string) 9) :: (Bk p5 [Value.int .u8 97, Value.int .u8 109, rowV C es.length] 51) :: (Bk p4 [Value.int .u8 0, Value.int .u8 0, Value.slice none 0 0] 51) :: (rowO 62 C ++ EOs 67 es)))) [(Bk p56 (sbC sbD) 67)] rfl rfl rfl (by simp) sz60 rfl (by show 3 + 1 ≤ 4; decide) ?_
   refine Ze ?_
   exact c_norm S' (by unfold rqB; rw [List.length_append, sbC_app]; exact hS') Zu (fun w1 h => (h.less (List.sublist_cons_self _ _) (fun _ h => h)).to (by unfold rqB; rw [List.length_append]; rfl))
  rintro S hS
  refine w_state ([(0, Vi ti), (1, Value.slice A0 qs.length c0), (4, Pt p4), (5, Pt p5), (6, Value.slice (some ⟨p14, 0, none⟩) 7 7), (7, Value.slice (some ⟨p15, 0, none⟩) 8 8), (8, Vi (k : Nat)), (9, Pt p9), (10, Pt p10)]) ((Bk p10 [Value.string (tagsR.getD (q0 % 7).toNat ⟨#[]⟩), Value.string ⟨#[49, 32]⟩, Value.string ⟨#[]⟩, rowV S (rqB q1 q2).length] 62) :: (Bk p9 [Vi q0, Vi q1, Vi q2] 106) :: (rowO 67 S ++ ((Bk p15 (namesR.map Value.string) 9) :: (Bk p14 (tagsR.map Value.string) 9) :: (Bk p5 [Value.int .u8 97, Value.int .u8 109, rowV C es.length] 51) :: (Bk p4 [Value.int .u8 0, Value.int .u8 0, Value.slice none 0 0] 51) :: (rowO 62 C ++ EOs 67 es)))) ([(w, fun _ => True)]) ?_
  refine w_seq_cut (σ := RowS) (fun S => rowOK 2 S (rqC q1 q2).length ((rqC q1 q2).flatMap sbC)) (fun S => [(0, Vi ti), (1, Value.slice A0 qs.length c0), (4, Pt p4), (5, Pt p5), (6, Value.slice (some ⟨p14, 0, none⟩) 7 7), (7, Value.slice (some ⟨p15, 0, none⟩) 8 8), (8, Vi (k : Nat)), (9, Pt p9), (10, Pt p10)]) (fun S => (Bk p10 [Value.string (tagsR.getD (q0 % 7).toNat ⟨#[]⟩), Value.string ⟨#[49, 32]⟩, Value.string ⟨#[]⟩, rowV S (rqC q1 q2).length] 62) :: (Bk p9 [Vi q0, Vi q1, Vi q2] 106) :: (rowO 67 S ++ ((Bk p15 (namesR.map Value.string) 9) :: (Bk p14 (tagsR.map Value.string) 9) :: (Bk p5 [Value.int .u8 97, Value.int .u8 109, rowV C es.length] 51) :: (Bk p4 [Value.int .u8 0, Value.int .u8 0, Value.slice none 0 0] 51) :: (rowO 62 C ++ EOs 67 es)))) (fun S => [(w, fun _ => True)]) ?_ ?_
  ·refine w_seq ?_
   refine Zr ?_
   refine Xv rfl (v_indexArr (j := 1) (off' := 1) u106 sz3 rfl rfl Zo rfl) ?_
   refine Xl rfl u3 rfl (at_ownL (vs := [Vi q0, Vi q1, Vi q2]) (v := Vi q1) (.tail _ (.head _)) rfl) ?_
   refine Xv rfl (v_quoi (c := q1.tdiv 4) rfl rfl (by decide) rfl (tdiv_in hq3.2.1 (by decide))) ?_
   refine x_callv (v := Vi (q1.tdiv 4 % 3)) rfl rfl rfl Tryz.func54 Zk rfl (fun w1 hw1 => r_mod (q1.tdiv 4) 3 w1 (tdiv_in hq3.2.1 (by decide)) (by omega)) ?_
   refine Xb rfl (v_eql rfl rfl) fun b63 hb63 => ?_
   refine Ze (Zt ?_)
   refine w_cond rfl (fun hc63 => ?_) fun hc63 => ?_
   ·simp only [hb63, Qz, ne_eq] at hc63
    have hCe : rqC q1 q2 = rqB q1 q2 ++ [rqZ q1 q2] := by unfold rqC; rw [if_pos hc63]
    refine rg_draw 17 [(true, 0), (true, 1), (true, 3), (true, 4), (true, 5), (true, 6), (true, 9), (true, 10), (true, 11), (true, 12), (true, 13), (false, 2), (true, 7), (true, 8), (true, 14), (true, 15), (false, 16)] Zk Zk ?_
    refine Xf 3 rfl u62 rfl sz60 ?_
    refine Xl rfl u60 rfl (at_ownL (vs := [Value.string (tagsR.getD (q0 % 7).toNat ⟨#[]⟩), Value.string ⟨#[49, 32]⟩, Value.string ⟨#[]⟩, rowV S (rqB q1 q2).length]) (.head _) rfl) ?_
    refine Xv rfl (v_indexArr (j := 1) (off' := 1) u106 sz3 rfl rfl Zo rfl) ?_
    refine Xl rfl u3 rfl (at_ownL (vs := [Vi q0, Vi q1, Vi q2]) (v := Vi q1) (.tail _ (.head _)) rfl) ?_
    refine Xv rfl (v_quoi (c := q1.tdiv 12) rfl rfl (by decide) rfl (tdiv_in hq3.2.1 (by decide))) ?_
    refine x_callv (v := Vi (((q1.tdiv 12 % 4).toNat : Nat) : Int)) rfl rfl rfl Tryz.func54 Zk rfl (fun w1 hw1 => by rw [Int.toNat_of_nonneg (Int.emod_nonneg _ (by decide))]; exact r_mod (q1.tdiv 12) 4 w1 (tdiv_in hq3.2.1 (by decide)) (by omega)) ?_
    refine Xv rfl (v_indexArr (j := 2) (off' := 2) u106 sz3 rfl rfl Zo rfl) ?_
    refine Xl rfl u3 rfl (at_ownL (vs := [Vi q0, Vi q1, Vi q2]) (v := Vi q2) (.tail _ (.head _)) rfl) ?_
    refine Xv rfl (v_quoi (c := q2.tdiv 8) rfl rfl (by decide) rfl (tdiv_in hq3.2.2 (by decide))) ?_
    refine x_callv (v := Vi (q2.tdiv 8 % 10)) rfl rfl rfl Tryz.func54 Zk rfl (fun w1 hw1 => r_mod (q2.tdiv 8) 10 w1 (tdiv_in hq3.2.2 (by decide)) (by omega)) ?_
    refine x_callv rfl rfl rfl Tryz.func15 Zk rfl (fun w1 hw1 => r_Decimal _ w1 (by omega) (by unfold in64; omega)) ?_
    refine x_buildSliceL (cs := presR.map Value.string) rfl rfl rfl u38 sz9 zr9 rfl rfl Zk ?_
    intro p66
    refine Xv rfl (v_indexAddr u38 sz9 rfl rfl (hb4) rfl) ?_
    refine Xl rfl u9 rfl (at_ownL (vs := presR.map Value.string) (v := Value.string (presR.getD (q1.tdiv 12 % 4).toNat ⟨#[]⟩)) (.head _) (by rw [Nat.zero_add, Nat.mul_one, List.getElem?_map, List.getD_eq_getElem?_getD, List.getElem?_eq_getElem (show _ < presR.length from hb4)]; rfl)) ?_
    refine Xv rfl (v_sadd rfl rfl (by have h9 := rqZ_sz q1 q2; unfold rqZ at h9; dsimp only at h9; rw [ByteArray.size_append] at h9; omega)) ?_
    refine Xv (v := Value.agg (sbC (rqZ q1 q2)).toArray) rfl (v_buildL (cs := sbC (rqZ q1 q2)) (places := [(0, 1), (1, 1)]) u67 zr67 Zk rfl rfl) ?_
    refine x_buildSliceL (cs := sbC (rqZ q1 q2)) rfl rfl rfl u60 sz67 zr67 rfl rfl rfl ?_
    intro p80
    refine x_append (e := 67) ((Bk p80 (sbC (rqZ q1 q2)) 67) :: (Bk p66 (presR.map Value.string) 9) :: (Bk p10 [Value.string (tagsR.getD (q0 % 7).toNat ⟨#[]⟩), Value.string ⟨#[49, 32]⟩, Value.string ⟨#[]⟩, rowV S (rqB q1 q2).length] 62) :: (Bk p9 [Vi q0, Vi q1, Vi q2] 106) :: []) (l2 := (Bk p15 (namesR.map Value.string) 9) :: (Bk p14 (tagsR.map Value.string) 9) :: (Bk p5 [Value.int .u8 97, Value.int .u8 109, rowV C es.length] 51) :: (Bk p4 [Value.int .u8 0, Value.int .u8 0, Value.slice none 0 0] 51) :: (rowO 62 C ++ EOs 67 es)) S (len := (rqB q1 q2).length) (xs := (rqB q1 q2).flatMap sbC) rfl rfl rfl rfl (by simp) hS u60 ap67 rfl rfl (m := 1) (news := sbC (rqZ q1 q2)) (fun i9 hi9 => at_ownL (vs := sbC (rqZ q1 q2)) (.head _) (by rw [Nat.zero_add]; exact List.getElem?_eq_getElem hi9)) rfl Zx (by omega) fun S' hS' => ?_
    refine Xf 3 rfl u62 rfl sz60 ?_
    refine x_store (cs := [Value.string (tagsR.getD (q0 % 7).toNat ⟨#[]⟩), Value.string ⟨#[49, 32]⟩, Value.string ⟨#[]⟩, rowV S (rqB q1 q2).length]) (off := 3) (e := 62) (l2 := (Bk p9 [Vi q0, Vi q1, Vi q2] 106) :: (rowO 67 S' ++ ((Bk p15 (namesR.map Value.string) 9) :: (Bk p14 (tagsR.map Value.string) 9) :: (Bk p5 [Value.int .u8 97, Value.int .u8 109, rowV C es.length] 51) :: (Bk p4 [Value.int .u8 0, Value.int .u8 0, Value.slice none 0 0] 51) :: (rowO 62 C ++ EOs 67 es)))) [(Bk p80 (sbC (rqZ q1 q2)) 67), (Bk p66 (presR.map Value.string) 9)] rfl rfl rfl (by simp) sz60 rfl (by show 3 + 1 ≤ 4; decide) ?_
    refine Ze ?_
    exact c_norm S' (by rw [hCe, List.length_append, sbC_app]; exact hS') Zu (fun w1 h => (h.less ((List.sublist_cons_self _ _).trans (List.sublist_cons_self _ _)) (fun _ h => h)).to (by rw [hCe, List.length_append]; rfl))
   simp only [hb63, Qz, ne_eq] at hc63
   have hCe : rqC q1 q2 = rqB q1 q2 := by unfold rqC; rw [if_neg hc63]
   refine w_skip ?_
   exact c_norm S (by rw [hCe]; exact hS) Zu (fun w1 h => h.to (by rw [hCe]))
  rintro S hS
  refine w_state ([(0, Vi ti), (1, Value.slice A0 qs.length c0), (4, Pt p4), (5, Pt p5), (6, Value.slice (some ⟨p14, 0, none⟩) 7 7), (7, Value.slice (some ⟨p15, 0, none⟩) 8 8), (8, Vi (k : Nat)), (9, Pt p9), (10, Pt p10)]) ((Bk p10 [Value.string (tagsR.getD (q0 % 7).toNat ⟨#[]⟩), Value.string ⟨#[49, 32]⟩, Value.string ⟨#[]⟩, rowV S (rqC q1 q2).length] 62) :: (Bk p9 [Vi q0, Vi q1, Vi q2] 106) :: (rowO 67 S ++ ((Bk p15 (namesR.map Value.string) 9) :: (Bk p14 (tagsR.map Value.string) 9) :: (Bk p5 [Value.int .u8 97, Value.int .u8 109, rowV C es.length] 51) :: (Bk p4 [Value.int .u8 0, Value.int .u8 0, Value.slice none 0 0] 51) :: (rowO 62 C ++ EOs 67 es)))) ([(w, fun _ => True)]) ?_
  refine w_seq_cut (σ := RowS) (fun S => rowOK 2 S (rqD q1 q2).length ((rqD q1 q2).flatMap sbC)) (fun S => [(0, Vi ti), (1, Value.slice A0 qs.length c0), (4, Pt p4), (5, Pt p5), (6, Value.slice (some ⟨p14, 0, none⟩) 7 7), (7, Value.slice (some ⟨p15, 0, none⟩) 8 8), (8, Vi (k : Nat)), (9, Pt p9), (10, Pt p10)]) (fun S => (Bk p10 [Value.string (tagsR.getD (q0 % 7).toNat ⟨#[]⟩), Value.string ⟨#[49, 32]⟩, Value.string ⟨#[]⟩, rowV S (rqD q1 q2).length] 62) :: (Bk p9 [Vi q0, Vi q1, Vi q2] 106) :: (rowO 67 S ++ ((Bk p15 (namesR.map Value.string) 9) :: (Bk p14 (tagsR.map Value.string) 9) :: (Bk p5 [Value.int .u8 97, Value.int .u8 109, rowV C es.length] 51) :: (Bk p4 [Value.int .u8 0, Value.int .u8 0, Value.slice none 0 0] 51) :: (rowO 62 C ++ EOs 67 es)))) (fun S => [(w, fun _ => True)]) ?_ ?_
  ·refine w_seq ?_
   refine Zr ?_
   refine Xv rfl (v_indexArr (j := 1) (off' := 1) u106 sz3 rfl rfl Zo rfl) ?_
   refine Xl rfl u3 rfl (at_ownL (vs := [Vi q0, Vi q1, Vi q2]) (v := Vi q1) (.tail _ (.head _)) rfl) ?_
   refine Xv rfl (v_quoi (c := q1.tdiv 48) rfl rfl (by decide) rfl (tdiv_in hq3.2.1 (by decide))) ?_
   refine x_callv (v := Vi (q1.tdiv 48 % 4)) rfl rfl rfl Tryz.func54 Zk rfl (fun w1 hw1 => r_mod (q1.tdiv 48) 4 w1 (tdiv_in hq3.2.1 (by decide)) (by omega)) ?_
   refine Xb rfl (v_eql rfl rfl) fun b87 hb87 => ?_
   refine Ze (Zt ?_)
   refine w_cond rfl (fun hc87 => ?_) fun hc87 => ?_
   ·simp only [hb87, Qz, ne_eq] at hc87
    have hDe : rqD q1 q2 = rqC q1 q2 ++ rqC q1 q2 := by unfold rqD; rw [if_pos hc87]
    have hC0 : 0 < (rqC q1 q2).length := by unfold rqC rqB; split <;> simp
    obtain ⟨gS, csS, cpS, rfl, _⟩ := hS.cell (j := 0) (by rw [flC_len (c := sbC) (m := 2) (fun _ => rfl)]; omega)
    refine Zr ?_
    refine Xf 3 rfl u62 rfl sz60 ?_
    refine Xl rfl u60 rfl (at_ownL (vs := [Value.string (tagsR.getD (q0 % 7).toNat ⟨#[]⟩), Value.string ⟨#[49, 32]⟩, Value.string ⟨#[]⟩, rowV (some (gS, csS, cpS)) (rqC q1 q2).length]) (.head _) rfl) ?_
    refine Xf 3 rfl u62 rfl sz60 ?_
    refine Xl rfl u60 rfl (at_ownL (vs := [Value.string (tagsR.getD (q0 % 7).toNat ⟨#[]⟩), Value.string ⟨#[49, 32]⟩, Value.string ⟨#[]⟩, rowV (some (gS, csS, cpS)) (rqC q1 q2).length]) (.head _) rfl) ?_
    refine x_append (e := 67) ((Bk p10 [Value.string (tagsR.getD (q0 % 7).toNat ⟨#[]⟩), Value.string ⟨#[49, 32]⟩, Value.string ⟨#[]⟩, rowV (some (gS, csS, cpS)) (rqC q1 q2).length] 62) :: (Bk p9 [Vi q0, Vi q1, Vi q2] 106) :: []) (l2 := (Bk p15 (namesR.map Value.string) 9) :: (Bk p14 (tagsR.map Value.string) 9) :: (Bk p5 [Value.int .u8 97, Value.int .u8 109, rowV C es.length] 51) :: (Bk p4 [Value.int .u8 0, Value.int .u8 0, Value.slice none 0 0] 51) :: (rowO 62 C ++ EOs 67 es)) (some (gS, csS, cpS)) (len := (rqC q1 q2).length) (xs := (rqC q1 q2).flatMap sbC) rfl rfl rfl rfl (by simp [rowO]) hS u60 ap67 rfl (by rw [flC_len (c := sbC) (m := 2) (fun _ => rfl)]) (m := (rqC q1 q2).length) (news := (rqC q1 q2).flatMap sbC) (fun i9 hi9 => at_ownL (vs := csS) (.tail _ (.tail _ (.head _))) (by rw [Nat.zero_add]; obtain ⟨_, _, _, k4, k5⟩ := hS; dsimp only at k4 k5; have h9 := List.getElem?_eq_getElem hi9; rw [← h9, ← k5, List.getElem?_take_of_lt (by rw [flC_len (c := sbC) (m := 2) (fun _ => rfl)] at hi9; exact hi9)])) (sbC_one _) Zx (by omega) fun S' hS' => ?_
    refine Xf 3 rfl u62 rfl sz60 ?_
    refine x_store (cs := [Value.string (tagsR.getD (q0 % 7).toNat ⟨#[]⟩), Value.string ⟨#[49, 32]⟩, Value.string ⟨#[]⟩, rowV (some (gS, csS, cpS)) (rqC q1 q2).length]) (off := 3) (e := 62) (l2 := (Bk p9 [Vi q0, Vi q1, Vi q2] 106) :: (rowO 67 S' ++ ((Bk p15 (namesR.map Value.string) 9) :: (Bk p14 (tagsR.map Value.string) 9) :: (Bk p5 [Value.int .u8 97, Value.int .u8 109, rowV C es.length] 51) :: (Bk p4 [Value.int .u8 0, Value.int .u8 0, Value.slice none 0 0] 51) :: (rowO 62 C ++ EOs 67 es)))) [] rfl rfl rfl (by simp) sz60 rfl (by show 3 + 1 ≤ 4; decide) ?_
    refine Ze ?_
    exact c_norm S' (by rw [hDe, List.length_append, List.flatMap_append]; exact hS') Zu (fun w1 h => h.to (by rw [hDe, List.length_append]; rfl))
   simp only [hb87, Qz, ne_eq] at hc87
   have hDe : rqD q1 q2 = rqC q1 q2 := by unfold rqD; rw [if_neg hc87]
   refine w_skip ?_
   exact c_norm S (by rw [hDe]; exact hS) Zu (fun w1 h => h.to (by rw [hDe]))
  rintro S hS
  refine w_state ([(0, Vi ti), (1, Value.slice A0 qs.length c0), (4, Pt p4), (5, Pt p5), (6, Value.slice (some ⟨p14, 0, none⟩) 7 7), (7, Value.slice (some ⟨p15, 0, none⟩) 8 8), (8, Vi (k : Nat)), (9, Pt p9), (10, Pt p10)]) ((Bk p10 [Value.string (tagsR.getD (q0 % 7).toNat ⟨#[]⟩), Value.string ⟨#[49, 32]⟩, Value.string ⟨#[]⟩, rowV S (rqD q1 q2).length] 62) :: (Bk p9 [Vi q0, Vi q1, Vi q2] 106) :: (rowO 67 S ++ ((Bk p15 (namesR.map Value.string) 9) :: (Bk p14 (tagsR.map Value.string) 9) :: (Bk p5 [Value.int .u8 97, Value.int .u8 109, rowV C es.length] 51) :: (Bk p4 [Value.int .u8 0, Value.int .u8 0, Value.slice none 0 0] 51) :: (rowO 62 C ++ EOs 67 es)))) ([(w, fun _ => True)]) ?_
  refine Zr ?_
  refine Xf 2 rfl u51 rfl sz49 ?_
  refine Xl rfl u49 rfl (at_ownL (vs := [Value.int .u8 97, Value.int .u8 109, rowV C es.length]) (.tail _ (.tail _ (List.mem_append_right _ (.tail _ (.tail _ (.head _)))))) rfl) ?_
  refine Xv (v := Value.agg (feC (⟨rqL q0 q1 q2, rowV S (rqD q1 q2).length, S⟩ : FE)).toArray) rfl (v_load_blk u62 rfl rfl (.head _) (by exact sz62)) ?_
  refine x_buildSliceL (cs := feC (⟨rqL q0 q1 q2, rowV S (rqD q1 q2).length, S⟩ : FE)) rfl rfl rfl u49 sz62 zr62 rfl rfl rfl ?_
  intro p97
  refine x_append (e := 62) ((Bk p97 (feC (⟨rqL q0 q1 q2, rowV S (rqD q1 q2).length, S⟩ : FE)) 62) :: (Bk p10 [Value.string (tagsR.getD (q0 % 7).toNat ⟨#[]⟩), Value.string ⟨#[49, 32]⟩, Value.string ⟨#[]⟩, rowV S (rqD q1 q2).length] 62) :: (Bk p9 [Vi q0, Vi q1, Vi q2] 106) :: (rowO 67 S ++ ((Bk p15 (namesR.map Value.string) 9) :: (Bk p14 (tagsR.map Value.string) 9) :: (Bk p5 [Value.int .u8 97, Value.int .u8 109, rowV C es.length] 51) :: (Bk p4 [Value.int .u8 0, Value.int .u8 0, Value.slice none 0 0] 51) :: []))) (l2 := EOs 67 es) C (len := es.length) (xs := es.flatMap feC) rfl rfl rfl rfl (by simp) hW.row u49 ap62 rfl rfl (m := 1) (news := feC (⟨rqL q0 q1 q2, rowV S (rqD q1 q2).length, S⟩ : FE)) (fun i9 hi9 => at_ownL (vs := feC (⟨rqL q0 q1 q2, rowV S (rqD q1 q2).length, S⟩ : FE)) (.head _) (by rw [Nat.zero_add]; exact List.getElem?_eq_getElem hi9)) rfl Zx (by omega) fun C' hC' => ?_
  refine Xf 2 rfl u51 rfl sz49 ?_
  refine x_store (cs := [Value.int .u8 97, Value.int .u8 109, rowV C es.length]) (off := 2) (e := 51) (l2 := (Bk p4 [Value.int .u8 0, Value.int .u8 0, Value.slice none 0 0] 51) :: (rowO 62 C' ++ EOs 67 es)) ((Bk p97 (feC (⟨rqL q0 q1 q2, rowV S (rqD q1 q2).length, S⟩ : FE)) 62) :: (Bk p10 [Value.string (tagsR.getD (q0 % 7).toNat ⟨#[]⟩), Value.string ⟨#[49, 32]⟩, Value.string ⟨#[]⟩, rowV S (rqD q1 q2).length] 62) :: (Bk p9 [Vi q0, Vi q1, Vi q2] 106) :: (rowO 67 S ++ ((Bk p15 (namesR.map Value.string) 9) :: (Bk p14 (tagsR.map Value.string) 9) :: []))) rfl rfl rfl (by simp) sz49 rfl (by show 2 + 1 ≤ 3; decide) ?_
  refine Ze (b_norm (Zt (Zr ?_)))
  refine Xm ?_
  refine Xv rfl (v_addi rfl rfl rfl Zo) ?_
  refine Xa ?_
  refine Ze ?_
  exact l_norm (k + 1, es ++ [(⟨rqL q0 q1 q2, rowV S (rqD q1 q2).length, S⟩ : FE)], C') ⟨hkl, hk12b, by dsimp only; rw [List.map_append, hW.fs, rqK_succ hkl, hfq]; rfl, by dsimp only; rw [List.length_append, List.flatMap_append]; simpa using hC', fun e he => by rcases List.mem_append.1 he with he | he; (· exact hW.ok e he); rw [List.mem_singleton.1 he]; exact ⟨rfl, hS⟩⟩ (by simp only; omega) Zu (fun w1 h => (((h.less (((List.Sublist.refl _).cons _).cons _ |>.cons _) (fun _ h => h)).to (List.append_assoc _ _ _)).perm (rec_p1 (S := rowO 67 S) (C := rowO 62 C') (E := EOs 67 es))).to (by dsimp only; rw [EOs_snoc, List.length_append]; rfl))
 simp only [hb23, hb22, hb19, Qz, ne_eq] at hc23
 have hke := rqK_all hk hk12 (by omega)
 refine w_exit ?_
 refine t_exit ?_
 refine t_exit ?_
 refine b_hit ?_
 refine Zt (Zs ?_)
 refine rg_draw 8 [(true, 0), (true, 1), (true, 2), (true, 3), (true, 4), (false, 5), (true, 6), (false, 7)] Zk Zk ?_
 refine Xf 2 rfl u51 rfl sz49 ?_
 refine Xl rfl u49 rfl (at_ownL (vs := [Value.int .u8 97, Value.int .u8 109, rowV C es.length]) (.tail _ (.tail _ (.head _))) rfl) ?_
 refine Xm ?_
 refine x_callv rfl rfl rfl Tryz.func30 Zk rfl (fun w1 hw1 => r_Title ti w1 hti) ?_
 refine Xv (v := Value.agg (sbC ⟨97, titN ti⟩).toArray) rfl (v_buildL (cs := sbC ⟨97, titN ti⟩) (places := [(0, 1), (1, 1)]) u67 zr67 Zk rfl rfl) ?_
 refine x_buildSliceL (cs := sbC ⟨97, titN ti⟩) rfl rfl rfl u60 sz67 zr67 rfl rfl rfl ?_
 intro p105
 refine Xv (v := Value.agg (flV8 (rqE (titN ti)) (.slice (some ⟨p105, 0, none⟩) 1 1)).toArray) rfl (v_buildL (cs := flV8 (rqE (titN ti)) (.slice (some ⟨p105, 0, none⟩) 1 1)) (places := [(0, 1), (1, 1), (2, 1), (3, 1)]) u62 zr62 Zk rfl rfl) ?_
 refine x_buildSliceL (cs := flV8 (rqE (titN ti)) (.slice (some ⟨p105, 0, none⟩) 1 1)) rfl rfl rfl u49 sz62 zr62 rfl rfl rfl ?_
 intro p107
 refine x_append (e := 62) ((Bk p107 (flV8 (rqE (titN ti)) (.slice (some ⟨p105, 0, none⟩) 1 1)) 62) :: (Bk p105 (sbC ⟨97, titN ti⟩) 67) :: (Bk p15 (namesR.map Value.string) 9) :: (Bk p14 (tagsR.map Value.string) 9) :: (Bk p5 [Value.int .u8 97, Value.int .u8 109, rowV C es.length] 51) :: (Bk p4 [Value.int .u8 0, Value.int .u8 0, Value.slice none 0 0] 51) :: []) (l2 := EOs 67 es) C (len := es.length) (xs := es.flatMap feC) rfl rfl rfl rfl (by simp) hW.row u49 ap62 rfl rfl (m := 1) (news := flV8 (rqE (titN ti)) (.slice (some ⟨p105, 0, none⟩) 1 1)) (fun i9 hi9 => at_ownL (vs := flV8 (rqE (titN ti)) (.slice (some ⟨p105, 0, none⟩) 1 1)) (.head _) (by rw [Nat.zero_add]; exact List.getElem?_eq_getElem hi9)) rfl Zx (by omega) fun C' hC' => ?_
 refine Xf 2 rfl u51 rfl sz49 ?_
 refine x_store (cs := [Value.int .u8 97, Value.int .u8 109, rowV C es.length]) (off := 2) (e := 51) (l2 := (Bk p4 [Value.int .u8 0, Value.int .u8 0, Value.slice none 0 0] 51) :: (rowO 62 C' ++ EOs 67 es)) ((Bk p107 (flV8 (rqE (titN ti)) (.slice (some ⟨p105, 0, none⟩) 1 1)) 62) :: (Bk p105 (sbC ⟨97, titN ti⟩) 67) :: (Bk p15 (namesR.map Value.string) 9) :: (Bk p14 (tagsR.map Value.string) 9) :: []) rfl rfl rfl (by simp) sz49 rfl (by show 2 + 1 ≤ 3; decide) ?_
 refine Ze (Zt (Zs (Zr ?_)))
 refine Xv rfl (v_load_blk u51 rfl rfl (by first | exact .head _ | exact .tail _ (.head _) | exact .tail _ (.tail _ (.head _)) | (repeat (first | exact List.Mem.head _ | apply List.Mem.tail | apply List.mem_append_right))) (by exact sz51)) ?_
 refine x_store0 [_, _, _, _, _] rfl rfl rfl rfl sz51 rfl rfl ?_
 refine Ze (Zt (w_ret ?_))
 refine retc (cs := #[.int .u8 97, .int .u8 109, rowV C' (es.length + 1)]) (e := 51) rfl rfl (.tail _ (.tail _ (.tail _ (.tail _ (.tail _ (.head _)))))) u51 rfl Zk (fun w' hm' => ?_)
 refine ⟨es ++ [(⟨rqE (titN ti), .slice (some ⟨p105, 0, none⟩) 1 1, some (p105, sbC ⟨97, titN ti⟩, 1)⟩ : FE)], C', by rw [List.length_append]; rfl, ⟨by rw [List.map_append, hW.fs, hke]; rfl, by rw [List.length_append, List.flatMap_append]; simpa [feC] using hC', fun e he => by rcases List.mem_append.1 he with he | he; (· exact hW.ok e he); rw [List.mem_singleton.1 he]; exact ⟨rfl, rfl, (by show 1 ≤ 1; decide), (by show 1 ≤ maxLen; simp only [maxLen]; omega), rfl, rfl⟩⟩, ?_⟩
 exact ((hm'.less ((((((List.Sublist.refl _).cons _).cons _).cons _).cons _).cons_cons _ |>.cons _) (fun _ h => h)).perm rec_p2).to (by simp [EOs, rowO])
end Go.Proofs.YtnflcekodobdlaaGreatDoor

namespace Go.Proofs.YtnflcekodobdlaaGreatDoor
open Go.RowKit Go.PK
attribute [local irreducible] WX
theorem fl_ext {f g : Fl} (h1 : f.tag = g.tag) (h2 : f.ind = g.ind) (h3 : f.data = g.data) (h4 : f.subs = g.subs) : f = g := by
 cases f; cases g; simp only at h1 h2 h3 h4; subst h1 h2 h3 h4; rfl
set_option maxHeartbeats 1000000 in
theorem r_SameFl {A1 A2 : Option Addr} {c1 c2 : Nat} {fs gs : List Fl} {D1 D2 : Nat → Prop} (w : World) (hf : sliceRd tyFl D1 w (.slice A1 fs.length c1) fs) (hg : sliceRd tyFl D2 w (.slice A2 gs.length c2) gs) :
  Calls Tryz.prog 57 #[.slice A1 fs.length c1, .slice A2 gs.length c2] w fun e w' => e = .returned (.bool (decide (fs = gs))) ∧ Later w w' := by
 have hmf : fs.length ≤ maxLen := by obtain ⟨_, _, _, _, h2, _⟩ := id hf; exact h2
 have hmg : gs.length ≤ maxLen := by obtain ⟨_, _, _, _, h2, _⟩ := id hg; exact h2
 simp only [maxLen] at hmf hmg
 refine enter (vs := [.slice A1 fs.length c1, .slice A2 gs.length c2]) Tryz.func57 rfl Tryz.ntmps57 rfl ?_
 refine Zs (Zr ?_)
 refine Xa ?_
 refine Ze (Zt (Zs (Zs (Zr ?_))))
 refine Xm ?_
 refine Xv (v := Vi (fs.length : Nat)) rfl (v_len_slice u49 rfl) ?_
 refine Xm ?_
 refine Xv (v := Vi (gs.length : Nat)) rfl (v_len_slice u49 rfl) ?_
 refine Xb rfl (v_neq rfl rfl) fun b13 hb13 => ?_
 refine Ze (Zt ?_)
 refine w_cond rfl (fun hc13 => ?_) fun hc13 => ?_
 ·simp only [hb13, Qz, ne_eq] at hc13
  have hnl : ¬fs.length = gs.length := by omega
  refine Zs (Zr ?_)
  refine Xa ?_
  refine Ze (Zt (w_ret (t_ret ?_)))
  refine ret1 rfl rfl (fun w' hm => ⟨?_, hm.base (by simp)⟩)
  rw [decide_eq_false (fun h => hnl (congrArg List.length h))]
 simp only [hb13, Qz, ne_eq] at hc13
 have hll : fs.length = gs.length := by omega
 refine w_skip (Zt (Zs (Zs (Zr ?_))))
 refine Xa ?_
 refine Ze (Zt (w_block ?_))
 refine w_loop (σ := Nat) (fun k => k ≤ fs.length ∧ fs.take k = gs.take k) (fun k => [(0, Value.slice A1 fs.length c1), (1, Value.slice A2 gs.length c2), (5, Vi (k : Nat))]) (fun k => []) (fun k => [(w, fun _ => True)]) (fun k => fs.length - k) (0) (⟨Nat.zero_le _, rfl⟩) (l_start Zu (fun _ h => h)) ?_
 rintro k ⟨hk, hsa⟩
 refine w_state ([(0, Value.slice A1 fs.length c1), (1, Value.slice A2 gs.length c2), (5, Vi (k : Nat))]) ([]) ([(w, fun _ => True)]) ?_
 refine Zs (Zs (Zr ?_))
 refine Xm ?_
 refine Xm ?_
 refine Xv (v := Vi (fs.length : Nat)) rfl (v_len_slice u49 rfl) ?_
 refine Xb rfl (v_lss rfl rfl) fun b17 hb17 => ?_
 refine Ze (Zt ?_)
 refine w_cond rfl (fun hc17 => ?_) fun hc17 => ?_
 ·simp only [hb17, Qz, ne_eq] at hc17
  have hkl : k < fs.length := by omega
  have hkl2 : k < gs.length := by omega
  obtain ⟨b1, o1, v1, hA1, _, hc1, hs1, _⟩ := fl8_at hf hkl
  obtain ⟨b2, o2, v2, hA2, _, hc2, hs2, _⟩ := fl8_at hg hkl2
  obtain ⟨A3, c3, rfl, hlc3, hmx3, _⟩ := id hs1
  obtain ⟨A4, c4, rfl, hlc4, hmx4, _⟩ := id hs2
  refine w_skip (Zt (Zs (w_block (Zs (Zr ?_)))))
  refine Xm ?_
  refine Xm ?_
  refine Xv rfl (v_indexAddr u49 sz62 (congrArg (fun A => some (Value.slice A fs.length c1)) hA1) rfl (hkl) rfl) ?_
  refine Xv rfl (v_loadN (vs := flV8 fs[k] (Value.slice A3 fs[k].subs.length c3)) u62 rfl sz62 rfl (fun i hi => at_ro (.head _) trivial (hc1 i hi))) ?_
  refine x_alloc rfl rfl rfl zr62 ?_
  intro p6
  refine x_store0 [] rfl rfl rfl rfl sz62 rfl rfl ?_
  refine Ze (Zt (Zs (Zr ?_)))
  refine Xm ?_
  refine Xm ?_
  refine Xv rfl (v_indexAddr u49 sz62 (congrArg (fun A => some (Value.slice A gs.length c2)) hA2) rfl (hkl2) rfl) ?_
  refine Xv rfl (v_loadN (vs := flV8 gs[k] (Value.slice A4 gs[k].subs.length c4)) u62 rfl sz62 rfl (fun i hi => at_ro (.head _) trivial (hc2 i hi))) ?_
  refine x_alloc rfl rfl rfl zr62 ?_
  intro p7
  refine x_store0 [] rfl rfl rfl rfl sz62 rfl rfl ?_
  refine Ze (Zt (Zs (Zs (Zr ?_))))
  refine Xf 0 rfl u62 rfl sz9 ?_
  refine Xl rfl u9 rfl (at_ownL (vs := flV8 fs[k] (Value.slice A3 fs[k].subs.length c3)) (.tail _ (.head _)) rfl) ?_
  refine Xf 0 rfl u62 rfl sz9 ?_
  refine Xl rfl u9 rfl (at_ownL (vs := flV8 gs[k] (Value.slice A4 gs[k].subs.length c4)) (.head _) rfl) ?_
  refine Xb rfl (v_sneq rfl rfl) fun b32 hb32 => ?_
  refine Xm ?_
  refine Xi rfl rfl rfl (fun hg0 => by subst hg0; (try simp only [Qy]); exact v_fieldAddr (off' := 1) u62 rfl sz9 (by decide) rfl rfl) ?_
  refine Xi rfl rfl rfl (fun hg0 => by subst hg0; (try simp only [Qy]); exact v_load u9 rfl rfl (at_ownL (vs := flV8 fs[k] (Value.slice A3 fs[k].subs.length c3)) (.tail _ (.head _)) rfl)) ?_
  refine Xi rfl rfl rfl (fun hg0 => by subst hg0; (try simp only [Qy]); exact v_fieldAddr (off' := 1) u62 rfl sz9 (by decide) rfl rfl) ?_
  refine Xi rfl rfl rfl (fun hg0 => by subst hg0; (try simp only [Qy]); exact v_load u9 rfl rfl (at_ownL (vs := flV8 gs[k] (Value.slice A4 gs[k].subs.length c4)) (.head _) rfl)) ?_
  refine Xj rfl rfl rfl (fun hg0 => by subst hg0; (try simp only [Qy]); exact v_sneq rfl rfl) fun b38 hb38 => ?_
  refine Xb rfl (v_or rfl rfl) fun b39 hb39 => ?_
  refine Xm ?_
  refine Xi rfl rfl rfl (fun hg0 => by subst hg0; (try simp only [Qy]); exact v_fieldAddr (off' := 2) u62 rfl sz9 (by decide) rfl rfl) ?_
  refine Xi rfl rfl rfl (fun hg0 => by subst hg0; (try simp only [Qy]); exact v_load u9 rfl rfl (at_ownL (vs := flV8 fs[k] (Value.slice A3 fs[k].subs.length c3)) (.tail _ (.head _)) rfl)) ?_
  refine Xi rfl rfl rfl (fun hg0 => by subst hg0; (try simp only [Qy]); exact v_fieldAddr (off' := 2) u62 rfl sz9 (by decide) rfl rfl) ?_
  refine Xi rfl rfl rfl (fun hg0 => by subst hg0; (try simp only [Qy]); exact v_load u9 rfl rfl (at_ownL (vs := flV8 gs[k] (Value.slice A4 gs[k].subs.length c4)) (.head _) rfl)) ?_
  refine Xj rfl rfl rfl (fun hg0 => by subst hg0; (try simp only [Qy]); exact v_sneq rfl rfl) fun b45 hb45 => ?_
  refine Xb rfl (v_or rfl rfl) fun b46 hb46 => ?_
  refine Xm ?_
  refine Xi rfl rfl rfl (fun hg0 => by subst hg0; (try simp only [Qy]); exact v_fieldAddr (off' := 3) u62 rfl sz60 (by decide) rfl rfl) ?_
  refine Xi rfl rfl rfl (fun hg0 => by subst hg0; (try simp only [Qy]); exact v_load u60 rfl rfl (at_ownL (vs := flV8 fs[k] (Value.slice A3 fs[k].subs.length c3)) (.tail _ (.head _)) rfl)) ?_
  refine Xi rfl rfl rfl (fun hg0 => by subst hg0; (try simp only [Qy]); exact v_len_slice u60 rfl) ?_
  refine Xi rfl rfl rfl (fun hg0 => by subst hg0; (try simp only [Qy]); exact v_fieldAddr (off' := 3) u62 rfl sz60 (by decide) rfl rfl) ?_
  refine Xi rfl rfl rfl (fun hg0 => by subst hg0; (try simp only [Qy]); exact v_load u60 rfl rfl (at_ownL (vs := flV8 gs[k] (Value.slice A4 gs[k].subs.length c4)) (.head _) rfl)) ?_
  refine Xi rfl rfl rfl (fun hg0 => by subst hg0; (try simp only [Qy]); exact v_len_slice u60 rfl) ?_
  refine Xj rfl rfl rfl (fun hg0 => by subst hg0; (try simp only [Qy]); exact v_neq rfl rfl) fun b54 hb54 => ?_
  refine Xb rfl (v_or rfl rfl) fun b55 hb55 => ?_
  refine Ze (Zt ?_)
  refine w_cond rfl (fun hc55 => ?_) fun hc55 => ?_
  ·simp only [hb55, hb54, hb46, hb45, hb39, hb38, hb32, Qz, ne_eq] at hc55
   have hne : ¬fs[k] = gs[k] := fun h => by rw [h] at hc55; simp at hc55
   refine Zs (Zr ?_)
   refine Xa ?_
   refine Ze (Zt (w_ret (t_ret (b_ret (t_ret (t_ret (b_ret (t_ret ?_))))))))
   refine ret1 rfl rfl (fun w' hm => ⟨?_, hm.base (by simp)⟩)
   rw [decide_eq_false (fun h => hne (by subst h; rfl))]
  simp only [hb55, hb54, hb46, hb45, hb39, hb38, hb32, Qz, ne_eq] at hc55
  obtain ⟨⟨⟨e1, e2⟩, e3⟩, e4⟩ : ((fs[k].tag = gs[k].tag ∧ fs[k].ind = gs[k].ind) ∧ fs[k].data = gs[k].data) ∧ fs[k].subs.length = gs[k].subs.length := by simpa [and_assoc, Int.ofNat_inj] using hc55
  refine w_skip (Zt (Zs (Zr ?_)))
  refine Xa ?_
  refine Ze (Zt (w_block ?_))
  refine w_loop (σ := Nat) (fun j => j ≤ fs[k].subs.length ∧ fs[k].subs.take j = gs[k].subs.take j) (fun j => [(0, Value.slice A1 fs.length c1), (1, Value.slice A2 gs.length c2), (5, Vi (k : Nat)), (6, Pt p6), (7, Pt p7), (8, Vi (j : Nat))]) (fun j => [(Bk p7 (flV8 gs[k] (Value.slice A4 gs[k].subs.length c4)) 62), (Bk p6 (flV8 fs[k] (Value.slice A3 fs[k].subs.length c3)) 62)]) (fun j => [(w, fun _ => True)]) (fun j => fs[k].subs.length - j) (0) (⟨Nat.zero_le _, rfl⟩) (l_start Zu (fun _ h => h)) ?_
  rintro j ⟨hj, hsj⟩
  refine w_state ([(0, Value.slice A1 fs.length c1), (1, Value.slice A2 gs.length c2), (5, Vi (k : Nat)), (6, Pt p6), (7, Pt p7), (8, Vi (j : Nat))]) ([(Bk p7 (flV8 gs[k] (Value.slice A4 gs[k].subs.length c4)) 62), (Bk p6 (flV8 fs[k] (Value.slice A3 fs[k].subs.length c3)) 62)]) ([(w, fun _ => True)]) ?_
  refine Zs (Zs (Zr ?_))
  refine Xm ?_
  refine Xf 3 rfl u62 rfl sz60 ?_
  refine Xl rfl u60 rfl (at_ownL (vs := flV8 fs[k] (Value.slice A3 fs[k].subs.length c3)) (.tail _ (.head _)) rfl) ?_
  refine Xv (v := Vi (fs[k].subs.length : Nat)) rfl (v_len_slice u60 rfl) ?_
  refine Xb rfl (v_lss rfl rfl) fun b60 hb60 => ?_
  refine Ze (Zt ?_)
  refine w_cond rfl (fun hc60 => ?_) fun hc60 => ?_
  ·simp only [hb60, Qz, ne_eq] at hc60
   have hjl : j < fs[k].subs.length := by omega
   have hjl2 : j < gs[k].subs.length := by omega
   obtain ⟨b5, o5, hA3, _, hc5⟩ := sb8_at hs1 hjl
   obtain ⟨b6, o6, hA4, _, hc6⟩ := sb8_at hs2 hjl2
   refine w_skip (Zt (Zs (w_block (Zs ?_))))
   refine rg_draw 11 [(true, 0), (true, 1), (true, 2), (true, 3), (true, 4), (true, 5), (true, 6), (true, 7), (true, 8), (true, 9), (true, 10)] Zk Zk ?_
   refine Xf 3 rfl u62 rfl sz60 ?_
   refine Xl rfl u60 rfl (at_ownL (vs := flV8 fs[k] (Value.slice A3 fs[k].subs.length c3)) (.tail _ (.head _)) rfl) ?_
   refine Xm ?_
   refine Xv rfl (v_indexAddr u60 sz67 (congrArg (fun A => some (Value.slice A fs[k].subs.length c3)) hA3) rfl (hjl) rfl) ?_
   refine Xv rfl (v_loadN (vs := sbC fs[k].subs[j]) u67 rfl sz67 rfl (fun i hi => at_ro (.head _) trivial (hc5 i hi))) ?_
   refine Xf 3 rfl u62 rfl sz60 ?_
   refine Xl rfl u60 rfl (at_ownL (vs := flV8 gs[k] (Value.slice A4 gs[k].subs.length c4)) (.head _) rfl) ?_
   refine Xm ?_
   refine Xv rfl (v_indexAddr u60 sz67 (congrArg (fun A => some (Value.slice A gs[k].subs.length c4)) hA4) rfl (hjl2) rfl) ?_
   refine Xv rfl (v_loadN (vs := sbC gs[k].subs[j]) u67 rfl sz67 rfl (fun i hi => at_ro (.head _) trivial (hc6 i hi))) ?_
   refine Xb rfl (v_neA Zk rfl rfl (fun w1 => eqSB w1 fs[k].subs[j] gs[k].subs[j])) fun b73 hb73 => ?_
   refine Ze (Zt ?_)
   refine w_cond rfl (fun hc73 => ?_) fun hc73 => ?_
   ·simp only [hb73, Qz, ne_eq] at hc73
    have hne : ¬fs[k].subs[j] = gs[k].subs[j] := by simpa using hc73
    refine Zs (Zr ?_)
    refine Xa ?_
    refine Ze (Zt (w_ret (b_ret (t_ret (t_ret (b_ret (b_ret (t_ret (t_ret (b_ret (t_ret ?_)))))))))))
    refine ret1 rfl rfl (fun w' hm => ⟨?_, hm.base (by simp)⟩)
    rw [decide_eq_false (fun h => hne (by subst h; rfl))]
   simp only [hb73, Qz, ne_eq] at hc73
   have heq : fs[k].subs[j] = gs[k].subs[j] := by simpa using hc73
   refine w_skip (b_norm (Zt (Zr ?_)))
   refine Xm ?_
   refine Xv rfl (v_addi rfl rfl rfl Zo) ?_
   refine Xa ?_
   refine Ze ?_
   exact l_norm (j + 1) ⟨hjl, by rw [List.take_succ_eq_append_getElem hjl, List.take_succ_eq_append_getElem hjl2, hsj, heq]⟩ (by omega) Zu (fun _ h => h)
  simp only [hb60, Qz, ne_eq] at hc60
  obtain rfl : j = fs[k].subs.length := by omega
  rw [List.take_of_length_le (Nat.le_refl _), List.take_of_length_le (by omega)] at hsj
  have heq := fl_ext e1 e2 e3 hsj
  refine w_exit ?_
  refine t_exit ?_
  refine t_exit ?_
  refine b_hit ?_
  refine b_norm (Zt (Zr ?_))
  refine Xm ?_
  refine Xv rfl (v_addi rfl rfl rfl Zo) ?_
  refine Xa ?_
  refine Ze ?_
  exact l_norm (k + 1) ⟨hkl, by rw [List.take_succ_eq_append_getElem hkl, List.take_succ_eq_append_getElem hkl2, hsa, heq]⟩ (by omega) Zu (fun _ h => h.less (List.nil_sublist _) (fun _ h => h))
 simp only [hb17, Qz, ne_eq] at hc17
 obtain rfl : k = fs.length := by omega
 refine w_exit ?_
 refine t_exit ?_
 refine t_exit ?_
 refine b_hit ?_
 refine Zt (Zs (Zr ?_))
 refine Xa ?_
 refine Ze (Zt (w_ret ?_))
 refine ret1 rfl rfl (fun w' hm => ⟨?_, hm.base (by simp)⟩)
 rw [List.take_of_length_le (Nat.le_refl _), List.take_of_length_le (by omega)] at hsa; rw [decide_eq_true hsa]
theorem r_SameR {A1 A2 : Option Addr} {c1 c2 : Nat} {fs gs : List Fl} {D1 D2 : Nat → Prop} (w : World) (hf : sliceRd tyFl D1 w (.slice A1 fs.length c1) fs) (hg : sliceRd tyFl D2 w (.slice A2 gs.length c2) gs) (kd lv : Int) :
  Calls Tryz.prog 27 #[.agg #[.int .u8 kd, .int .u8 lv, .slice A1 fs.length c1], .agg #[.int .u8 kd, .int .u8 lv, .slice A2 gs.length c2]] w fun e w' => e = .returned (.bool (decide (fs = gs))) ∧ Later w w' := by
 refine enter (vs := [.agg #[.int .u8 kd, .int .u8 lv, .slice A1 fs.length c1], .agg #[.int .u8 kd, .int .u8 lv, .slice A2 gs.length c2]]) Tryz.func27 rfl Tryz.ntmps27 rfl ?_
 refine Zs (Zr ?_)
 refine x_box rfl rfl rfl rfl ?_
 intro p2
 refine x_box rfl rfl rfl rfl ?_
 intro p3
 refine Xa ?_
 refine Ze (Zt (Zs (Zr ?_)))
 refine Xf 2 rfl u51 rfl sz49 ?_
 refine Xl rfl u49 rfl (at_ownL (vs := [Value.int .u8 kd, .int .u8 lv, .slice A1 fs.length c1]) (.tail _ (.head _)) rfl) ?_
 refine Xf 2 rfl u51 rfl sz49 ?_
 refine Xl rfl u49 rfl (at_ownL (vs := [Value.int .u8 kd, .int .u8 lv, .slice A2 gs.length c2]) (.head _) rfl) ?_
 refine x_callb rfl rfl rfl Tryz.func57 Zk rfl (fun w1 hw1 => r_SameFl w1 (hf.keep (Kept.later (hw1.base (by simp)))) (hg.keep (Kept.later (hw1.base (by simp))))) fun b10 hb10 => ?_
 refine Xa ?_
 refine Ze (Zt (Zs (Zr ?_)))
 refine Xm ?_
 refine Xm ?_
 refine Xi rfl rfl rfl (fun hg0 => by subst hg0; (try simp only [Qy]); exact v_fieldAddr (off' := 0) u51 rfl sz5 (by decide) rfl rfl) ?_
 refine Xi rfl rfl rfl (fun hg0 => by subst hg0; (try simp only [Qy]); exact v_load u5 rfl rfl (at_ownL (vs := [Value.int .u8 kd, .int .u8 lv, .slice A1 fs.length c1]) (.tail _ (.head _)) rfl)) ?_
 refine Xi rfl rfl rfl (fun hg0 => by subst hg0; (try simp only [Qy]); exact v_fieldAddr (off' := 0) u51 rfl sz5 (by decide) rfl rfl) ?_
 refine Xi rfl rfl rfl (fun hg0 => by subst hg0; (try simp only [Qy]); exact v_load u5 rfl rfl (at_ownL (vs := [Value.int .u8 kd, .int .u8 lv, .slice A2 gs.length c2]) (.head _) rfl)) ?_
 refine Xj rfl rfl rfl (fun hg0 => by subst hg0; (try simp only [Qy]); exact v_eql rfl rfl) fun b17 hb17 => ?_
 refine Xb rfl (v_and rfl rfl) fun b18 hb18 => ?_
 refine Xm ?_
 refine Xi rfl rfl rfl (fun hg0 => by subst hg0; (try simp only [Qy]); exact v_fieldAddr (off' := 1) u51 rfl sz5 (by decide) rfl rfl) ?_
 refine Xi rfl rfl rfl (fun hg0 => by subst hg0; (try simp only [Qy]); exact v_load u5 rfl rfl (at_ownL (vs := [Value.int .u8 kd, .int .u8 lv, .slice A1 fs.length c1]) (.tail _ (.head _)) rfl)) ?_
 refine Xi rfl rfl rfl (fun hg0 => by subst hg0; (try simp only [Qy]); exact v_fieldAddr (off' := 1) u51 rfl sz5 (by decide) rfl rfl) ?_
 refine Xi rfl rfl rfl (fun hg0 => by subst hg0; (try simp only [Qy]); exact v_load u5 rfl rfl (at_ownL (vs := [Value.int .u8 kd, .int .u8 lv, .slice A2 gs.length c2]) (.head _) rfl)) ?_
 refine Xj rfl rfl rfl (fun hg0 => by subst hg0; (try simp only [Qy]); exact v_eql rfl rfl) fun b24 hb24 => ?_
 refine Xb rfl (v_and rfl rfl) fun b25 hb25 => ?_
 refine Xa ?_
 refine Ze (Zt (w_ret ?_))
 exact ret1 rfl rfl (fun w' hm => ⟨by rw [show b25 = decide (fs = gs) from by simp [hb25, hb24, hb18, hb17, hb10]], hm.base (by simp)⟩)
end Go.Proofs.YtnflcekodobdlaaGreatDoor

namespace Go.Proofs.YtnflcekodobdlaaGreatDoor
open Go.RowKit Go.PK
attribute [local irreducible] WX
theorem rec_rd {fs : List Fl} {es : List FE} {C : RowS} {own : List (Nat × Obj)} {ro : List Snap} {w w0 : World} (h : RecW fs es C) (hok : ∀ f ∈ fs, okFl f) (hm : Mem w own ro) (hro : (w0, fun _ => True) ∈ ro) (hin : ∀ q ∈ rowO 62 C ++ EOs 67 es, q ∈ own) : sliceRd tyFl (fun _ => True) w (rowV C es.length) fs := by
 rw [← h.fs]
 exact fe_rd (TF := 62) (T := 67) hm hro h.row (fun e he => ⟨.inr (h.ok e he), hok _ (by rw [← h.fs]; exact List.mem_map_of_mem he)⟩) (fun p hp => hin p (List.mem_append_left _ hp)) (fun e he p hp => hin p (List.mem_append_right _ (List.mem_flatMap.2 ⟨e, he, hp⟩))) (fun _ _ _ => trivial) (fun _ _ _ _ => trivial) (fun _ _ => trivial)
theorem r_SameRv {fs gs : List Fl} {D1 D2 : Nat → Prop} {v1 v2 : Value} (w : World) (hf : sliceRd tyFl D1 w v1 fs) (hg : sliceRd tyFl D2 w v2 gs) (kd lv : Int) : Calls Tryz.prog 27 #[.agg #[.int .u8 kd, .int .u8 lv, v1], .agg #[.int .u8 kd, .int .u8 lv, v2]] w fun e w' => e = .returned (.bool (decide (fs = gs))) ∧ Later w w' := by
 obtain ⟨A1, c1, rfl, _⟩ := id hf
 obtain ⟨A2, c2, rfl, _⟩ := id hg
 exact r_SameR w hf hg kd lv
theorem rowV_sl (C : RowS) (n : Nat) : ∃ A c, rowV C n = .slice A n c := by cases C <;> exact ⟨_, _, rfl⟩
end Go.Proofs.YtnflcekodobdlaaGreatDoor

namespace Go.Proofs.YtnflcekodobdlaaGreatDoor
open Go.RowKit Go.PK
attribute [local irreducible] WX
theorem flat_later {ws w : World} {A : Option Addr} {cp : Nat} {xs : List Fl} (h : sliceRd tyFl (fun _ => True) ws (.slice A xs.length cp) xs) (hl : Later ws w) {k : Nat} (hk : k < xs.length) : ∃ b o A' c', A = some ⟨b, o, none⟩ ∧ (∀ j (hj : j < (flV8 xs[k] (.slice A' xs[k].subs.length c')).length), w.cell? ⟨b, o + k * 4 + j, none⟩ = some (flV8 xs[k] (.slice A' xs[k].subs.length c'))[j]) ∧ sliceRd tySb (fun _ => True) ws (.slice A' xs[k].subs.length c') xs[k].subs ∧ xs[k].ok := by
 obtain ⟨b, o, v, h1, _, h3, h4, h5⟩ := fl8_at h hk
 obtain ⟨A', c', rfl, _⟩ := id h4
 exact ⟨b, o, A', c', h1, fun j hj => (World.cell?_of_block (hl.block _ (cell_lt (p := ⟨b, o + k * 4 + j, none⟩) (h3 j hj)))).trans (h3 j hj), h4, h5⟩
theorem sb_later {ws w : World} {A : Option Addr} {cp : Nat} {xs : List Sb} (h : sliceRd tySb (fun _ => True) ws (.slice A xs.length cp) xs) (hl : Later ws w) {k : Nat} (hk : k < xs.length) : ∃ b o, A = some ⟨b, o, none⟩ ∧ ∀ j (hj : j < (sbC xs[k]).length), w.cell? ⟨b, o + k * 2 + j, none⟩ = some (sbC xs[k])[j] := by
 obtain ⟨b, o, h1, _, h3⟩ := sb8_at h hk
 exact ⟨b, o, h1, fun j hj => (World.cell?_of_block (hl.block _ (cell_lt (p := ⟨b, o + k * 2 + j, none⟩) (h3 j hj)))).trans (h3 j hj)⟩
theorem r_First {A : Option Addr} {c : Nat} {gs : List Fl} {ws : World} (w : World) (hxs : sliceRd tyFl (fun _ => True) ws (.slice A gs.length c) gs) (hl : Later ws w) (kd lv : Int) :
  Calls Tryz.prog 33 #[.agg [Value.int .u8 kd, .int .u8 lv, .slice A gs.length c].toArray, .string ⟨#[50, 52, 53]⟩] w fun e w' => ∃ v' bb, e = .returned (.tuple #[.agg (flV8 (fstF gs) v').toArray, .bool bb]) ∧ sliceRd tySb (fun _ => True) ws v' (fstF gs).subs ∧ Later w w' := by
 have hgm : gs.length ≤ 9223372036854775807 := by obtain ⟨_, _, _, _, h2, _⟩ := id hxs; exact h2
 refine enter (vs := [.agg [Value.int .u8 kd, .int .u8 lv, .slice A gs.length c].toArray, .string ⟨#[50, 52, 53]⟩]) Tryz.func33 rfl Tryz.ntmps33 rfl ?_
 refine Zs (Zr ?_)
 refine x_box rfl rfl rfl rfl ?_
 intro p2
 refine x_alloc rfl rfl rfl zr62 ?_
 intro p4
 refine Xa ?_
 refine Ze (Zt (Zs (Zs (Zr ?_))))
 refine Xa ?_
 refine Ze (Zt (w_block ?_))
 refine w_loop (σ := Nat) (fun k => k ≤ gs.length ∧ ∀ j (hj : j < gs.length), j < k → decide (gs[j].tag = tagT) = false) (fun k => [(1, Value.string ⟨#[50, 52, 53]⟩), (2, Pt p2), (4, Pt p4), (6, Vi (k : Nat))]) (fun k => [(Bk p4 [Value.string ⟨#[]⟩, .string ⟨#[]⟩, .string ⟨#[]⟩, .slice none 0 0] 62), (Bk p2 [Value.int .u8 kd, .int .u8 lv, .slice A gs.length c] 51)]) (fun k => [(w, fun _ => True)]) (fun k => gs.length - k) (0) (⟨Nat.zero_le _, by intros; omega⟩) (l_start Zu (fun _ h => h)) ?_
 rintro k ⟨hk, hno⟩
 refine w_state ([(1, Value.string ⟨#[50, 52, 53]⟩), (2, Pt p2), (4, Pt p4), (6, Vi (k : Nat))]) ([(Bk p4 [Value.string ⟨#[]⟩, .string ⟨#[]⟩, .string ⟨#[]⟩, .slice none 0 0] 62), (Bk p2 [Value.int .u8 kd, .int .u8 lv, .slice A gs.length c] 51)]) ([(w, fun _ => True)]) ?_
 refine Zs (Zs (Zr ?_))
 refine Xm ?_
 refine Xf 2 rfl u51 rfl sz49 ?_
 refine Xl rfl u49 rfl (at_ownL (vs := [Value.int .u8 kd, .int .u8 lv, .slice A gs.length c]) (.tail _ (.head _)) rfl) ?_
 refine Xv (v := Vi (gs.length : Nat)) rfl (v_len_slice u49 rfl) ?_
 refine Xb rfl (v_lss rfl rfl) fun b11 hb11 => ?_
 refine Ze (Zt ?_)
 refine w_cond rfl (fun hc11 => ?_) fun hc11 => ?_
 ·simp only [hb11, Qz, ne_eq] at hc11
  have hkl : k < gs.length := by omega
  obtain ⟨b1, o1, A1, c1, hA1, hc1, hs1, _⟩ := flat_later hxs hl hkl
  refine w_skip (Zt (Zs (w_block (Zs (Zr ?_)))))
  refine Xf 2 rfl u51 rfl sz49 ?_
  refine Xl rfl u49 rfl (at_ownL (vs := [Value.int .u8 kd, .int .u8 lv, .slice A gs.length c]) (.tail _ (.head _)) rfl) ?_
  refine Xm ?_
  refine Xv rfl (v_indexAddr u49 sz62 (congrArg (fun A => some (Value.slice A gs.length c)) hA1) rfl (hkl) rfl) ?_
  refine Xf _ rfl u62 rfl sz9 ?_
  refine Xl rfl u9 rfl (at_ro (.head _) trivial (v := Value.string gs[k].tag) (hc1 0 (by show 0 < 4; decide))) ?_
  refine Xm ?_
  refine Xb rfl (v_seql rfl rfl) fun b21 hb21 => ?_
  refine Ze (Zt ?_)
  refine w_cond rfl (fun hc21 => ?_) fun hc21 => ?_
  ·simp only [hb21, Qz, ne_eq] at hc21
   have hb : gs[k].tag = tagT := hc21
   have hfs := fstF_at hkl hb hno
   refine Zs (Zr ?_)
   refine Xf 2 rfl u51 rfl sz49 ?_
   refine Xl rfl u49 rfl (at_ownL (vs := [Value.int .u8 kd, .int .u8 lv, .slice A gs.length c]) (.tail _ (.head _)) rfl) ?_
   refine Xm ?_
   refine Xv rfl (v_indexAddr u49 sz62 (congrArg (fun A => some (Value.slice A gs.length c)) hA1) rfl (hkl) rfl) ?_
   refine Xv rfl (v_loadN (vs := (flV8 gs[k] (.slice A1 gs[k].subs.length c1))) u62 rfl sz62 rfl (fun i hi => at_ro (.head _) trivial (hc1 i hi))) ?_
   refine x_store0 [] rfl rfl rfl rfl sz62 rfl rfl ?_
   refine Xa ?_
   refine Ze (Zt (w_ret (b_ret (t_ret (t_ret (b_ret (t_ret ?_)))))))
   refine retct (cs := (flV8 gs[k] (.slice A1 gs[k].subs.length c1)).toArray) (e := 62) rfl rfl rfl (.head _) u62 rfl Zk (fun w' hm => ⟨_, _, by rw [hfs], ?_, hm.base (by simp)⟩)
   rw [hfs]; exact hs1
  simp only [hb21, Qz, ne_eq] at hc21
  have hb : decide (gs[k].tag = tagT) = false := decide_eq_false hc21
  refine w_skip (b_norm (Zt (Zr ?_)))
  refine Xm ?_
  refine Xv rfl (v_addi rfl rfl rfl Zo) ?_
  refine Xa ?_
  refine Ze ?_
  exact l_norm (k + 1) ⟨hkl, fun j hj hjk => by rcases Nat.lt_succ_iff_lt_or_eq.1 hjk with h2 | rfl; (· exact hno j hj h2); exact hb⟩ (by omega) Zu (fun _ h => h)
 simp only [hb11, Qz, ne_eq] at hc11
 obtain rfl : k = gs.length := by omega
 have hfs := fstF_no (fun j hj => hno j hj hj)
 refine w_exit ?_
 refine t_exit ?_
 refine t_exit ?_
 refine b_hit ?_
 refine Zt (Zs (Zr ?_))
 refine Xv (v := Value.agg [Value.string ⟨#[]⟩, .string ⟨#[]⟩, .string ⟨#[]⟩, .slice none 0 0].toArray) rfl (v_buildL (cs := [Value.string ⟨#[]⟩, .string ⟨#[]⟩, .string ⟨#[]⟩, .slice none 0 0]) (places := [(0, 1), (1, 1), (2, 1), (3, 1)]) u62 zr62 Zk rfl rfl) ?_
 refine x_store0 [] rfl rfl rfl rfl sz62 rfl rfl ?_
 refine Xa ?_
 refine Ze (Zt (w_ret ?_))
 refine retct (cs := [Value.string ⟨#[]⟩, .string ⟨#[]⟩, .string ⟨#[]⟩, .slice none 0 0].toArray) (e := 62) rfl rfl rfl (.head _) u62 rfl Zk (fun w' hm => ⟨.slice none 0 0, _, by rw [hfs]; rfl, ?_, hm.base (by simp)⟩)
 rw [hfs]
 exact ⟨none, 0, rfl, Nat.zero_le _, Nat.zero_le _, fun h => absurd h (Nat.lt_irrefl _)⟩
theorem ab_iff (s : Sb) : (∃ j, j < (⟨#[97, 98]⟩ : ByteArray).size ∧ byteAt ⟨#[97, 98]⟩ j = s.code) ↔ isAB s = true := by
 unfold isAB
 rw [decide_eq_true_eq]
 constructor
 ·rintro ⟨j, hj, h⟩
  have hj : j < 2 := hj
  match j, hj with
  | 0, _ => exact .inl h.symm
  | 1, _ => exact .inr h.symm
 rintro (h | h)
 ·exact ⟨0, by show 0 < 2; decide, h.symm⟩
 exact ⟨1, by show 1 < 2; decide, h.symm⟩
open Classical in
theorem r_Text {A : Option Addr} {c : Nat} {f : Fl} {ws : World} (w : World) (hxs : sliceRd tySb (fun _ => True) ws (.slice A f.subs.length c) f.subs) (hl : Later ws w) (hsl : f.subs.length ≤ 1000) (hsz0 : ∀ s ∈ f.subs, s.text.size ≤ 1000) :
  Calls Tryz.prog 32 #[.agg (flV8 f (.slice A f.subs.length c)).toArray, .string ⟨#[97, 98]⟩] w fun e w' => e = .returned (.string (joinS (txtS f.subs))) ∧ Later w w' := by
 have hsz : ∀ t ∈ txtS f.subs, t.size ≤ 1000 := fun t ht => by
  unfold txtS at ht
  obtain ⟨s, hs, rfl⟩ := List.mem_map.1 ht
  exact hsz0 s (List.mem_filter.1 hs).1
 refine enter (vs := [.agg (flV8 f (.slice A f.subs.length c)).toArray, .string ⟨#[97, 98]⟩]) Tryz.func32 rfl Tryz.ntmps32 rfl ?_
 refine Zs (Zr ?_)
 refine x_box rfl rfl rfl rfl ?_
 intro p2
 refine Xa ?_
 refine Ze (Zt (Zs (Zr ?_)))
 refine Xa ?_
 refine Ze (Zt (Zs (Zs (Zr ?_))))
 refine Xa ?_
 refine Ze (Zt (w_block ?_))
 refine w_loop (σ := Nat × RowS) (fun z => z.1 ≤ f.subs.length ∧ rowOK 1 z.2 (txtS (f.subs.take z.1)).length ((txtS (f.subs.take z.1)).map Value.string)) (fun z => [(1, Value.string ⟨#[97, 98]⟩), (2, Pt p2), (5, rowV z.2 (txtS (f.subs.take z.1)).length), (6, Vi (z.1 : Nat))]) (fun z => (Bk p2 (flV8 f (.slice A f.subs.length c)) 62) :: rowO 9 z.2) (fun z => [(w, fun _ => True)]) (fun z => f.subs.length - z.1) ((0, none)) (⟨Nat.zero_le _, rowOK_nil⟩) (l_start Zu (fun _ h => h)) ?_
 rintro ⟨k, R⟩ ⟨hk, hR⟩
 refine w_state ([(1, Value.string ⟨#[97, 98]⟩), (2, Pt p2), (5, rowV R (txtS (f.subs.take k)).length), (6, Vi (k : Nat))]) ((Bk p2 (flV8 f (.slice A f.subs.length c)) 62) :: rowO 9 R) ([(w, fun _ => True)]) ?_
 dsimp only at hk hR
 have hrl := txtS_len (f.subs.take k)
 rw [List.length_take] at hrl
 refine Zs (Zs (Zr ?_))
 refine Xm ?_
 refine Xf 3 rfl u62 rfl sz60 ?_
 refine Xl rfl u60 rfl (at_ownL (vs := (flV8 f (.slice A f.subs.length c))) (.head _) rfl) ?_
 refine Xv (v := Vi (f.subs.length : Nat)) rfl (v_len_slice u60 rfl) ?_
 refine Xb rfl (v_lss rfl rfl) fun b12 hb12 => ?_
 refine Ze (Zt ?_)
 refine w_cond rfl (fun hc12 => ?_) fun hc12 => ?_
 ·simp only [hb12, Qz, ne_eq] at hc12
  have hkl : k < f.subs.length := by omega
  obtain ⟨b1, o1, hA1, hc1⟩ := sb_later hxs hl hkl
  refine w_skip (Zt (Zs (w_block (Zs (Zr ?_)))))
  refine Xm ?_
  refine Xf 3 rfl u62 rfl sz60 ?_
  refine Xl rfl u60 rfl (at_ownL (vs := (flV8 f (.slice A f.subs.length c))) (.head _) rfl) ?_
  refine Xm ?_
  refine Xv rfl (v_indexAddr u60 sz67 (congrArg (fun A => some (Value.slice A f.subs.length c)) hA1) rfl (hkl) rfl) ?_
  refine Xf _ rfl u67 rfl sz5 ?_
  refine Xl rfl u5 rfl (at_ro (.head _) trivial (v := Value.int .u8 (f.subs[k].code.toNat : Nat)) (hc1 0 (by show 0 < 2; decide))) ?_
  refine x_callb rfl rfl rfl Tryz.func70 Zk rfl (fun w1 hw1 => r_has ⟨#[97, 98]⟩ f.subs[k].code w1 (by decide +kernel)) fun b22 hb22 => ?_
  refine Xa ?_
  refine Ze (Zt (Zs (Zr ?_)))
  refine Xm ?_
  refine Ze (Zt ?_)
  refine w_cond rfl (fun hc23 => ?_) fun hc23 => ?_
  ·simp only [hb22, Qz, ne_eq] at hc23
   have hab : isAB f.subs[k] = true := (ab_iff _).1 hc23
   refine Zr ?_
   refine Xm ?_
   refine Xf 3 rfl u62 rfl sz60 ?_
   refine Xl rfl u60 rfl (at_ownL (vs := (flV8 f (.slice A f.subs.length c))) (.head _) rfl) ?_
   refine Xm ?_
   refine Xv rfl (v_indexAddr u60 sz67 (congrArg (fun A => some (Value.slice A f.subs.length c)) hA1) rfl (hkl) rfl) ?_
   refine Xf _ rfl u67 rfl sz9 ?_
   refine Xl rfl u9 rfl (at_ro (.head _) trivial (v := Value.string f.subs[k].text) (hc1 1 (by show 1 < 2; decide))) ?_
   refine x_buildSliceL (cs := [Value.string f.subs[k].text]) rfl rfl rfl u38 sz9 zr9 rfl rfl rfl ?_
   intro p31
   refine x_append (e := 9) ((Bk p31 [Value.string f.subs[k].text] 9) :: (Bk p2 (flV8 f (.slice A f.subs.length c)) 62) :: []) (l2 := []) R (len := (txtS (f.subs.take k)).length) (xs := (txtS (f.subs.take k)).map Value.string) rfl rfl rfl rfl (by simp) hR u38 ap9 rfl rfl (m := 1) (news := [Value.string f.subs[k].text]) (fun i9 hi9 => at_ownL (vs := [Value.string f.subs[k].text]) (.head _) (by rw [Nat.zero_add]; exact List.getElem?_eq_getElem hi9)) rfl Zx (by omega) fun R' hR' => ?_
   refine Xa ?_
   refine Ze (b_norm (Zt (Zr ?_)))
   refine Xm ?_
   refine Xv rfl (v_addi rfl rfl rfl Zo) ?_
   refine Xa ?_
   refine Ze ?_
   exact l_norm (k + 1, R') ⟨hkl, by dsimp only; rw [txtS_succ hkl, if_pos hab, List.length_append, List.map_append]; exact hR'⟩ (by simp only; omega) (by dsimp only; rw [txtS_succ hkl, if_pos hab, List.length_append]; repeat (first | exact Sub.nil | refine Sub.cons rfl ?_)) (fun w1 h => (h.less (List.sublist_cons_self _ _) (fun _ h => h)).to (by simp))
  simp only [hb22, Qz, ne_eq] at hc23
  have hab : ¬isAB f.subs[k] = true := fun h => hc23 ((ab_iff _).2 h)
  refine w_skip (b_norm (Zt (Zr ?_)))
  refine Xm ?_
  refine Xv rfl (v_addi rfl rfl rfl Zo) ?_
  refine Xa ?_
  refine Ze ?_
  exact l_norm (k + 1, R) ⟨hkl, by dsimp only; rw [txtS_succ hkl, if_neg hab]; exact hR⟩ (by simp only; omega) (by dsimp only; rw [txtS_succ hkl, if_neg hab]; repeat (first | exact Sub.nil | refine Sub.cons rfl ?_)) (fun w1 h => h)
 simp only [hb12, Qz, ne_eq] at hc12
 obtain rfl : k = f.subs.length := by omega
 rw [List.take_of_length_le (Nat.le_refl _)] at hR hrl ⊢
 refine w_exit ?_
 refine t_exit ?_
 refine t_exit ?_
 refine b_hit ?_
 refine Zt (Zs (Zr ?_))
 refine Xm ?_
 refine x_callv rfl rfl rfl Tryz.func53 Zk rfl (fun w1 hw1 => r_Join w1 (hw1.rowR (by rw [flat1]; exact hR) (fun q hq => .tail _ hq)) (by omega) (Nat.le_trans (joinS_sz 1000 _ (fun t ht => hsz t ht)) (by omega))) ?_
 refine Xa ?_
 refine Ze (Zt (w_ret ?_))
 refine ret1 rfl rfl (fun w' hm => ⟨?_, hm.base (by simp)⟩)
 rfl
theorem numH_at {hs : List HR} {t : ByteArray} {k : Nat} (hk : k < hs.length) (ht : itoaS hs[k].g.id = t) (hno : ∀ j (hj : j < hs.length), j < k → decide (itoaS hs[j].g.id = t) = false) : numH (gsR hs) t = some hs[k].g.id := by
 unfold numH gsR
 rw [List.find?_map]
 have e : hs.find? ((fun h : HG => decide (itoaS h.id = t)) ∘ fun x : HR => x.g) = some hs[k] := List.find?_eq_some_iff_getElem.2 ⟨decide_eq_true ht, k, hk, rfl, fun j hj => by have := hno j (by omega) hj; simpa using this⟩
 rw [e]; rfl
theorem numH_no {hs : List HR} {t : ByteArray} (hno : ∀ j (hj : j < hs.length), decide (itoaS hs[j].g.id = t) = false) : numH (gsR hs) t = none := by
 unfold numH gsR
 rw [List.find?_map]
 have e : hs.find? ((fun h : HG => decide (itoaS h.id = t)) ∘ fun x : HR => x.g) = none := List.find?_eq_none.2 fun x hx => by
  obtain ⟨j, hj, rfl⟩ := List.getElem_of_mem hx
  have := hno j hj
  simpa using this
 rw [e]; rfl
theorem txtC_sz {M : Nat} (c : UInt8) : ∀ l : List Sb, (∀ s ∈ l, s.text.size ≤ M) → (txtC c l).size ≤ M
 | [], _ => Nat.zero_le _
 | s :: l, h => by
  unfold txtC
  split
  ·exact h s (.head _)
  exact txtC_sz c l fun q hq => h q (.tail _ hq)
set_option maxHeartbeats 1000000 in
theorem r_hd {ps : Nat} {H : RowS} {hs : List HR} (w : World) (hR : RdR w ps H hs) (hlen : hs.length ≤ 100000) (hacy : Acy (gsR hs)) (hp : ∀ h ∈ gsR hs, h.id < 1000000000000000000) (hsz : ∀ x ∈ hs, szH 4000000 x.g) (hol : ∀ x ∈ hs, x.g.oth.length ≤ 100000) {A : Option Addr} {c : Nat} {f : Fl} {ws : World} (hxs : sliceRd tySb (fun _ => True) ws (.slice A f.subs.length c) f.subs) (hl : Later ws w) (hsl : f.subs.length ≤ 1000) (hsz0 : ∀ s ∈ f.subs, s.text.size ≤ 1000) :
  Calls Tryz.prog 68 #[Pt ps, .agg (flV8 f (.slice A f.subs.length c)).toArray] w fun e w' => e = .returned (Vi ((hdF (gsR hs) f.subs).1)) ∧ Later w w' := by
 have hp2 : ∀ h ∈ gsR hs, 1 ≤ h.id ∧ h.id < 1000000000000000000 := fun h hh => ⟨(hacy.pos h hh).1, hp h hh⟩
 have htx : (txtC 97 f.subs).size ≤ 4000000 := Nat.le_trans (txtC_sz 97 f.subs hsz0) (by omega)
 refine enter (vs := [Pt ps, .agg (flV8 f (.slice A f.subs.length c)).toArray]) Tryz.func68 rfl Tryz.ntmps68 rfl ?_
 refine Zs (Zr ?_)
 refine x_box rfl rfl rfl rfl ?_
 intro p3
 refine Xa ?_
 refine Ze (Zt (Zs (Zr ?_)))
 refine Xa ?_
 refine Ze (Zt (Zs (Zr ?_)))
 refine Xa ?_
 refine Ze (Zt (Zs (Zs (Zr ?_))))
 refine Xf 3 rfl u62 rfl sz60 ?_
 refine Xl rfl u60 rfl (at_ownL (vs := (flV8 f (.slice A f.subs.length c))) (.head _) rfl) ?_
 refine Xv (v := Vi (f.subs.length : Nat)) rfl (v_len_slice u60 rfl) ?_
 refine Xv rfl (v_subi (c := ((f.subs.length : Nat) : Int) - 1) rfl rfl rfl (by omega)) ?_
 refine Xa ?_
 refine Ze (Zt (w_block ?_))
 refine w_loop (σ := Nat × ByteArray × ByteArray) (fun z => z.1 ≤ f.subs.length ∧ z.2.1 = txtC 97 (f.subs.drop z.1) ∧ z.2.2 = txtC 48 (f.subs.drop z.1)) (fun z => [(0, Pt ps), (3, Pt p3), (5, Value.string z.2.1), (6, Value.string z.2.2), (7, Vi ((z.1 : Nat) - 1 : Int))]) (fun z => [(Bk p3 (flV8 f (.slice A f.subs.length c)) 62)]) (fun z => [(w, fun _ => True)]) (fun z => z.1) ((f.subs.length, ⟨#[]⟩, ⟨#[]⟩)) (⟨Nat.le_refl _, by rw [List.drop_length]; rfl, by rw [List.drop_length]; rfl⟩) (l_start Zu (fun _ h => h)) ?_
 rintro ⟨k, ta, tn⟩ ⟨hk, hta, htn⟩
 refine w_state ([(0, Pt ps), (3, Pt p3), (5, Value.string ta), (6, Value.string tn), (7, Vi ((k : Nat) - 1 : Int))]) ([(Bk p3 (flV8 f (.slice A f.subs.length c)) 62)]) ([(w, fun _ => True)]) ?_
 dsimp only at hk hta htn
 refine Zs (Zs (Zr ?_))
 refine Xm ?_
 refine Xb rfl (v_geq rfl rfl) fun b16 hb16 => ?_
 refine Ze (Zt ?_)
 refine w_cond rfl (fun hc16 => ?_) fun hc16 => ?_
 ·simp only [hb16, Qz, ne_eq] at hc16
  obtain ⟨i, rfl⟩ : ∃ i, k = i + 1 := ⟨k - 1, by omega⟩
  have hil : i < f.subs.length := by omega
  have hji : (((i + 1 : Nat) : Int) - 1) = ((i : Nat) : Int) := by omega
  rw [hji]
  obtain ⟨b1, o1, hA1, hc1⟩ := sb_later hxs hl hil
  have hdi : f.subs.drop i = f.subs[i] :: f.subs.drop (i + 1) := List.drop_eq_getElem_cons hil
  refine w_skip (Zt (Zs (w_block ?_)))
  refine w_seq_cut (σ := Unit) (fun z9 => True) (fun z9 => [(0, Pt ps), (3, Pt p3), (5, Value.string ta), (6, Value.string (txtC 48 (f.subs.drop i))), (7, Vi (i : Nat))]) (fun z9 => [(Bk p3 (flV8 f (.slice A f.subs.length c)) 62)]) (fun z9 => [(w, fun _ => True)]) ?_ ?_
  ·refine w_seq ?_
   refine Zr ?_
   refine Xf 3 rfl u62 rfl sz60 ?_
   refine Xl rfl u60 rfl (at_ownL (vs := (flV8 f (.slice A f.subs.length c))) (.head _) rfl) ?_
   refine Xm ?_
   refine Xv rfl (v_indexAddr u60 sz67 (congrArg (fun A => some (Value.slice A f.subs.length c)) hA1) rfl (hil) rfl) ?_
   refine Xf _ rfl u67 rfl sz5 ?_
   refine Xl rfl u5 rfl (at_ro (.head _) trivial (v := Value.int .u8 (f.subs[i].code.toNat : Nat)) (hc1 0 (by show 0 < 2; decide))) ?_
   refine Xb rfl (v_eql rfl rfl) fun b25 hb25 => ?_
   refine Ze (Zt ?_)
   refine w_cond rfl (fun hc25 => ?_) fun hc25 => ?_
   ·simp only [hb25, Qz, ne_eq] at hc25
    have hcd : f.subs[i].code = 48 := code_eq.1 hc25
    have hte : txtC 48 (f.subs.drop i) = f.subs[i].text := by rw [hdi]; show (if _ then _ else _) = _; rw [if_pos hcd]
    refine Zr ?_
    refine Xf 3 rfl u62 rfl sz60 ?_
    refine Xl rfl u60 rfl (at_ownL (vs := (flV8 f (.slice A f.subs.length c))) (.head _) rfl) ?_
    refine Xm ?_
    refine Xv rfl (v_indexAddr u60 sz67 (congrArg (fun A => some (Value.slice A f.subs.length c)) hA1) rfl (hil) rfl) ?_
    refine Xf _ rfl u67 rfl sz9 ?_
    refine Xl rfl u9 rfl (at_ro (.head _) trivial (v := Value.string f.subs[i].text) (hc1 1 (by show 1 < 2; decide))) ?_
    refine Xa ?_
    refine Ze ?_
    exact c_norm () trivial (by rw [hte]; repeat (first | exact Sub.nil | refine Sub.cons rfl ?_)) (fun _ h => h)
   simp only [hb25, Qz, ne_eq] at hc25
   have hcd : ¬f.subs[i].code = 48 := fun h => hc25 (code_eq.2 h)
   have hte : txtC 48 (f.subs.drop i) = txtC 48 (f.subs.drop (i + 1)) := by rw [hdi]; show (if _ then _ else _) = _; rw [if_neg hcd]
   refine w_skip ?_
   exact c_norm () trivial (by rw [hte, ← htn]; repeat (first | exact Sub.nil | refine Sub.cons rfl ?_)) (fun _ h => h)
  rintro _ _
  refine Zs (Zr ?_)
  refine Xf 3 rfl u62 rfl sz60 ?_
  refine Xl rfl u60 rfl (at_ownL (vs := (flV8 f (.slice A f.subs.length c))) (.head _) rfl) ?_
  refine Xm ?_
  refine Xv rfl (v_indexAddr u60 sz67 (congrArg (fun A => some (Value.slice A f.subs.length c)) hA1) rfl (hil) rfl) ?_
  refine Xf _ rfl u67 rfl sz5 ?_
  refine Xl rfl u5 rfl (at_ro (.head _) trivial (v := Value.int .u8 (f.subs[i].code.toNat : Nat)) (hc1 0 (by show 0 < 2; decide))) ?_
  refine Xb rfl (v_eql rfl rfl) fun b38 hb38 => ?_
  refine Ze (Zt ?_)
  refine w_cond rfl (fun hc38 => ?_) fun hc38 => ?_
  ·simp only [hb38, Qz, ne_eq] at hc38
   have hcd : f.subs[i].code = 97 := code_eq.1 hc38
   have hte : txtC 97 (f.subs.drop i) = f.subs[i].text := by rw [hdi]; show (if _ then _ else _) = _; rw [if_pos hcd]
   refine Zr ?_
   refine Xf 3 rfl u62 rfl sz60 ?_
   refine Xl rfl u60 rfl (at_ownL (vs := (flV8 f (.slice A f.subs.length c))) (.head _) rfl) ?_
   refine Xm ?_
   refine Xv rfl (v_indexAddr u60 sz67 (congrArg (fun A => some (Value.slice A f.subs.length c)) hA1) rfl (hil) rfl) ?_
   refine Xf _ rfl u67 rfl sz9 ?_
   refine Xl rfl u9 rfl (at_ro (.head _) trivial (v := Value.string f.subs[i].text) (hc1 1 (by show 1 < 2; decide))) ?_
   refine Xa ?_
   refine Ze (b_norm (Zt (Zr ?_)))
   refine Xm ?_
   refine Xv rfl (v_subi (c := ((i : Nat) : Int) - 1) rfl rfl rfl (by omega)) ?_
   refine Xa ?_
   refine Ze ?_
   exact l_norm (i, f.subs[i].text, txtC 48 (f.subs.drop i)) ⟨by dsimp only; omega, hte.symm, rfl⟩ (by simp only; omega) Zu (fun _ h => h)
  simp only [hb38, Qz, ne_eq] at hc38
  have hcd : ¬f.subs[i].code = 97 := fun h => hc38 (code_eq.2 h)
  have hte : txtC 97 (f.subs.drop i) = txtC 97 (f.subs.drop (i + 1)) := by rw [hdi]; show (if _ then _ else _) = _; rw [if_neg hcd]
  refine w_skip (b_norm (Zt (Zr ?_)))
  refine Xm ?_
  refine Xv rfl (v_subi (c := ((i : Nat) : Int) - 1) rfl rfl rfl (by omega)) ?_
  refine Xa ?_
  refine Ze ?_
  exact l_norm (i, ta, txtC 48 (f.subs.drop i)) ⟨by dsimp only; omega, by dsimp only; rw [hte]; exact hta, rfl⟩ (by simp only; omega) Zu (fun _ h => h)
 simp only [hb16, Qz, ne_eq] at hc16
 obtain rfl : k = 0 := by omega
 rw [List.drop_zero] at hta htn
 subst hta htn
 refine w_exit ?_
 refine t_exit ?_
 refine t_exit ?_
 refine b_hit ?_
 refine Zt (Zs (Zs (Zr ?_)))
 refine Xa ?_
 refine Ze (Zt (w_block ?_))
 refine w_loop (σ := Nat) (fun k => k ≤ hs.length ∧ ∀ j (hj : j < hs.length), j < k → decide (itoaS hs[j].g.id = txtC 48 f.subs) = false) (fun k => [(0, Pt ps), (3, Pt p3), (5, Value.string (txtC 97 f.subs)), (6, Value.string (txtC 48 f.subs)), (8, Vi (k : Nat))]) (fun k => [(Bk p3 (flV8 f (.slice A f.subs.length c)) 62)]) (fun k => [(w, fun _ => True)]) (fun k => hs.length - k) (0) (⟨Nat.zero_le _, by intros; omega⟩) (l_start Zu (fun _ h => h)) ?_
 rintro k ⟨hk, hno⟩
 refine w_state ([(0, Pt ps), (3, Pt p3), (5, Value.string (txtC 97 f.subs)), (6, Value.string (txtC 48 f.subs)), (8, Vi (k : Nat))]) ([(Bk p3 (flV8 f (.slice A f.subs.length c)) 62)]) ([(w, fun _ => True)]) ?_
 refine Zs (Zs (Zr ?_))
 refine Xm ?_
 refine Xm ?_
 refine Xn ?_
 refine Xf _ rfl u144 rfl sz142 ?_
 refine Xl rfl u142 rfl (at_ro (.head _) trivial hR.st) ?_
 refine Xv (v := Vi (hs.length : Nat)) rfl (v_len_slice u142 rfl) ?_
 refine Xb rfl (v_lss rfl rfl) fun b51 hb51 => ?_
 refine Ze (Zt ?_)
 refine w_cond rfl (fun hc51 => ?_) fun hc51 => ?_
 ·simp only [hb51, Qz, ne_eq] at hc51
  have hkl : k < hs.length := by omega
  have hpk := hp2 hs[k].g (List.mem_map_of_mem (List.getElem_mem hkl))
  obtain ⟨g, cs, cp, hRg, hcp, hcl⟩ := hR.row.cells (c := hrC) (m := 5) (fun _ => rfl) (by decide) hkl
  refine w_skip (Zt (Zs (w_block (Zs (Zr ?_)))))
  refine Xm ?_
  refine Xn ?_
  refine Xf _ rfl u144 rfl sz142 ?_
  refine Xl rfl u142 rfl (at_ro (.head _) trivial hR.st) ?_
  refine Xm ?_
  refine Xv rfl (v_indexAddr u142 sz148 (congrArg (fun R => some (rowV R hs.length)) hRg) rfl (hkl) rfl) ?_
  refine Xf _ rfl u148 rfl sz3 ?_
  refine Xl rfl u3 rfl (at_ro (.head _) trivial (v := Vi hs[k].g.id) (by show w.cell? ⟨g, 0 + k * 5 + 0, none⟩ = _; rw [Nat.zero_add]; exact hcl 0 (by decide))) ?_
  refine x_callv rfl rfl rfl Tryz.func15 Zk rfl (fun w1 hw1 => r_Decimal _ w1 (by omega) (by unfold in64; omega)) ?_
  refine Xm ?_
  refine Xb rfl (v_seql rfl rfl) fun b64 hb64 => ?_
  refine Ze (Zt ?_)
  refine w_cond rfl (fun hc64 => ?_) fun hc64 => ?_
  ·simp only [hb64, Qz, ne_eq] at hc64
   have hb : itoaS hs[k].g.id = txtC 48 f.subs := hc64
   have hnum := numH_at hkl hb hno
   refine Zs (Zr ?_)
   refine Xm ?_
   refine Xn ?_
   refine Xf _ rfl u144 rfl sz142 ?_
   refine Xl rfl u142 rfl (at_ro (.head _) trivial hR.st) ?_
   refine Xm ?_
   refine Xv rfl (v_indexAddr u142 sz148 (congrArg (fun R => some (rowV R hs.length)) hRg) rfl (hkl) rfl) ?_
   refine Xf _ rfl u148 rfl sz3 ?_
   refine Xl rfl u3 rfl (at_ro (.head _) trivial (v := Vi hs[k].g.id) (by show w.cell? ⟨g, 0 + k * 5 + 0, none⟩ = _; rw [Nat.zero_add]; exact hcl 0 (by decide))) ?_
   refine Xa ?_
   refine Ze (Zt (w_ret (b_ret (t_ret (t_ret (b_ret (t_ret ?_)))))))
   refine ret1 rfl rfl (fun w' hm => ⟨?_, hm.base (by simp)⟩)
   rw [hdF_eq hacy.ids hp2, hnum]
  simp only [hb64, Qz, ne_eq] at hc64
  have hb : decide (itoaS hs[k].g.id = txtC 48 f.subs) = false := decide_eq_false hc64
  refine w_skip (b_norm (Zt (Zr ?_)))
  refine Xm ?_
  refine Xv rfl (v_addi rfl rfl rfl Zo) ?_
  refine Xa ?_
  refine Ze ?_
  exact l_norm (k + 1) ⟨hkl, fun j hj hjk => by rcases Nat.lt_succ_iff_lt_or_eq.1 hjk with h2 | rfl; (· exact hno j hj h2); exact hb⟩ (by omega) Zu (fun _ h => h)
 simp only [hb51, Qz, ne_eq] at hc51
 have hnum := numH_no (fun j hj => hno j hj (by omega))
 refine w_exit ?_
 refine t_exit ?_
 refine t_exit ?_
 refine b_hit ?_
 refine Zt (Zs (Zr ?_))
 refine Xm ?_
 refine Xm ?_
 refine x_callv rfl rfl rfl Tryz.func97 Zk rfl (fun w1 hw1 => r_FindS w1 (hR.later (hw1.base (by simp))) hlen hacy hsz hol (txtC 97 f.subs) htx) ?_
 refine Xm ?_
 refine Xe ?_
 refine Xb rfl (v_extract rfl rfl) fun b78 hb78 => ?_
 refine Xa ?_
 refine Xa ?_
 refine Ze (Zt (Zs (Zr ?_)))
 refine Xm ?_
 refine Xa ?_
 refine Ze (Zt (w_ret ?_))
 refine ret1 rfl rfl (fun w' hm => ⟨?_, hm.base (by simp)⟩)
 rw [hdF_eq hacy.ids hp2, hnum]; rfl
end Go.Proofs.YtnflcekodobdlaaGreatDoor

namespace Go.Proofs.YtnflcekodobdlaaGreatDoor
open Go.RowKit Go.PK
attribute [local irreducible] WX
theorem chgL_len (name num : ByteArray) : ∀ (l : List Sb) (nm nb : Bool), (chgL name num nm nb l).length = l.length
 | [], _, _ => rfl
 | s :: l, nm, nb => by unfold chgL; rw [List.length_cons, List.length_cons, chgL_len name num l]
set_option maxHeartbeats 4000000 in
theorem r_chg {ps : Nat} {H : RowS} {hs : List HR} (w : World) (hR : RdR w ps H hs) (hlen : hs.length ≤ 100000) (hacy : Acy (gsR hs)) (hp : ∀ h ∈ gsR hs, h.id < 1000000000000000000) {A : Option Addr} {c : Nat} {f : Fl} {ws : World} (hxs : sliceRd tySb (fun _ => True) ws (.slice A f.subs.length c) f.subs) (hl : Later ws w) (hsl : f.subs.length ≤ 1000) (hne : f.subs ≠ []) (h : Int) (hh : (lkH (gsR hs) h).isSome = true) :
  Calls Tryz.prog 69 #[Pt ps, .agg (flV8 f (.slice A f.subs.length c)).toArray, Vi h] w fun e w' => ∃ S', e = .returned (.agg (flV8 { f with subs := rewS (gsR hs) h f.subs } (rowV S' (rewS (gsR hs) h f.subs).length)).toArray) ∧ rowOK 2 S' (rewS (gsR hs) h f.subs).length ((rewS (gsR hs) h f.subs).flatMap sbC) ∧ Mem w' (rowO 67 S') [(w, fun _ => True)] := by
 obtain ⟨i, hi, hfi⟩ := fidx_lt ((fdR_lk hs h).2.2.2 hh)
 have hfi : fdR hs h = (i : Nat) := hfi
 have hlk := (fdR_lk hs h).1 i hi hfi
 obtain ⟨hm1, hm2⟩ := lkH_mem hlk
 have hpos := (hacy.pos _ hm1).1
 have hlt := hp _ hm1
 have hf0 : 0 < f.subs.length := List.length_pos_iff.2 hne
 have hnf : (nameF (gsR hs) h).1 = hs[i].g.name := by unfold nameF; rw [hlk]
 obtain ⟨g, cs, cp, hRg, hcp, hcl⟩ := hR.row.cells (c := hrC) (m := 5) (fun _ => rfl) (by decide) hi
 refine enter (vs := [Pt ps, .agg (flV8 f (.slice A f.subs.length c)).toArray, Vi h]) Tryz.func69 rfl Tryz.ntmps69 rfl ?_
 refine Zs (Zr ?_)
 refine x_box rfl rfl rfl rfl ?_
 intro p4
 refine x_alloc rfl rfl rfl zr62 ?_
 intro p6
 refine Ze (Zt (Zs ?_))
 refine rg_draw 11 [(true, 0), (true, 1), (true, 2), (true, 3), (true, 4), (true, 5), (true, 6), (true, 7), (true, 8), (true, 9), (true, 10)] Zk Zk ?_
 refine Xm ?_
 refine Xn ?_
 refine Xf _ rfl u144 rfl sz142 ?_
 refine Xl rfl u142 rfl (at_ro (.head _) trivial hR.st) ?_
 refine Xm ?_
 refine Xm ?_
 refine x_callv (v := Vi ((i : Nat) : Int)) rfl rfl rfl Tryz.func96 Zk rfl (fun w1 hw1 => by rw [← hfi]; exact r_find w1 (hR.later (hw1.base (by simp))) hlen h) ?_
 refine Xv rfl (v_indexAddr u142 sz148 (congrArg (fun R => some (rowV R hs.length)) hRg) rfl (hi) rfl) ?_
 refine Xf _ rfl u148 rfl sz9 ?_
 refine Xl rfl u9 rfl (at_ro (.head _) trivial (v := Value.string (nameF (gsR hs) h).1) (by rw [hnf]; show w.cell? ⟨g, 0 + i * 5 + 1, none⟩ = _; rw [Nat.zero_add]; exact hcl 1 (by decide))) ?_
 refine Xa ?_
 refine Ze (Zt (Zs (Zr ?_)))
 refine Xa ?_
 refine Ze (Zt (Zs (Zr ?_)))
 refine Xa ?_
 refine Ze (Zt (Zs (Zr ?_)))
 refine Xf 0 rfl u62 rfl sz9 ?_
 refine Xl rfl u9 rfl (at_ownL (vs := (flV8 f (.slice A f.subs.length c))) (.tail _ (.head _)) rfl) ?_
 refine Xf 1 rfl u62 rfl sz9 ?_
 refine Xl rfl u9 rfl (at_ownL (vs := (flV8 f (.slice A f.subs.length c))) (.tail _ (.head _)) rfl) ?_
 refine Xf 2 rfl u62 rfl sz9 ?_
 refine Xl rfl u9 rfl (at_ownL (vs := (flV8 f (.slice A f.subs.length c))) (.tail _ (.head _)) rfl) ?_
 refine Xv (v := Value.agg [Value.string f.tag, .string f.ind, .string f.data, .slice none 0 0].toArray) rfl (v_buildL (cs := [Value.string f.tag, .string f.ind, .string f.data, .slice none 0 0]) (places := [(0, 1), (1, 1), (2, 1), (3, 1)]) u62 zr62 Zk rfl rfl) ?_
 refine x_alloc rfl rfl rfl zr62 ?_
 intro p10
 refine x_store0 [] rfl rfl rfl rfl sz62 rfl rfl ?_
 refine Ze (Zt (Zs (Zs (Zr ?_))))
 refine Xa ?_
 refine Ze (Zt (w_block ?_))
 refine w_loop (σ := Nat × Bool × Bool × List Sb × RowS) (fun z => z.1 ≤ f.subs.length ∧ z.2.2.2.1.length = z.1 ∧ z.2.1 = hasC 97 (f.subs.take z.1) ∧ z.2.2.1 = hasC 48 (f.subs.take z.1) ∧ z.2.2.2.1 ++ chgL (nameF (gsR hs) h).1 (itoaS h) z.2.1 z.2.2.1 (f.subs.drop z.1) = chgL (nameF (gsR hs) h).1 (itoaS h) false false f.subs ∧ rowOK 2 z.2.2.2.2 z.2.2.2.1.length (z.2.2.2.1.flatMap sbC)) (fun z => [(2, Vi h), (4, Pt p4), (6, Pt p6), (7, Value.string (nameF (gsR hs) h).1), (10, Pt p10), (8, Value.bool z.2.1), (9, Value.bool z.2.2.1), (11, Vi (z.1 : Nat))]) (fun z => (Bk p10 [Value.string f.tag, .string f.ind, .string f.data, rowV z.2.2.2.2 z.2.2.2.1.length] 62) :: (Bk p6 [Value.string ⟨#[]⟩, .string ⟨#[]⟩, .string ⟨#[]⟩, .slice none 0 0] 62) :: (Bk p4 (flV8 f (.slice A f.subs.length c)) 62) :: rowO 67 z.2.2.2.2) (fun z => [(w, fun _ => True)]) (fun z => f.subs.length - z.1) ((0, false, false, [], none)) (⟨Nat.zero_le _, rfl, rfl, rfl, rfl, rowOK_nil⟩) (l_start Zu (fun _ h => h)) ?_
 rintro ⟨k, nm, nb, o, S⟩ ⟨hk, hol, hnm, hnb, hch, hS⟩
 refine w_state ([(2, Vi h), (4, Pt p4), (6, Pt p6), (7, Value.string (nameF (gsR hs) h).1), (10, Pt p10), (8, Value.bool nm), (9, Value.bool nb), (11, Vi (k : Nat))]) ((Bk p10 [Value.string f.tag, .string f.ind, .string f.data, rowV S o.length] 62) :: (Bk p6 [Value.string ⟨#[]⟩, .string ⟨#[]⟩, .string ⟨#[]⟩, .slice none 0 0] 62) :: (Bk p4 (flV8 f (.slice A f.subs.length c)) 62) :: rowO 67 S) ([(w, fun _ => True)]) ?_
 dsimp only at hk hol hnm hnb hch hS
 refine Zs (Zs (Zr ?_))
 refine Xm ?_
 refine Xf 3 rfl u62 rfl sz60 ?_
 refine Xl rfl u60 rfl (at_ownL (vs := (flV8 f (.slice A f.subs.length c))) (.tail _ (.tail _ (.head _))) rfl) ?_
 refine Xv (v := Vi (f.subs.length : Nat)) rfl (v_len_slice u60 rfl) ?_
 refine Xb rfl (v_lss rfl rfl) fun b34 hb34 => ?_
 refine Ze (Zt ?_)
 refine w_cond rfl (fun hc34 => ?_) fun hc34 => ?_
 ·simp only [hb34, Qz, ne_eq] at hc34
  have hkl : k < f.subs.length := by omega
  obtain ⟨b1, o1, hA1, hc1⟩ := sb_later hxs hl hkl
  have htk : f.subs.take (k + 1) = f.subs.take k ++ [f.subs[k]] := List.take_succ_eq_append_getElem hkl
  have hdk : f.subs.drop k = f.subs[k] :: f.subs.drop (k + 1) := List.drop_eq_getElem_cons hkl
  have hh97 : hasC 97 (f.subs.take (k + 1)) = (hasC 97 (f.subs.take k) || decide (f.subs[k].code = 97)) := by rw [htk]; unfold hasC; rw [List.any_append]; simp
  have hh48 : hasC 48 (f.subs.take (k + 1)) = (hasC 48 (f.subs.take k) || decide (f.subs[k].code = 48)) := by rw [htk]; unfold hasC; rw [List.any_append]; simp
  refine w_skip (Zt (Zs (w_block (Zs (Zr ?_)))))
  refine Xf 3 rfl u62 rfl sz60 ?_
  refine Xl rfl u60 rfl (at_ownL (vs := (flV8 f (.slice A f.subs.length c))) (.tail _ (.tail _ (.head _))) rfl) ?_
  refine Xm ?_
  refine Xv rfl (v_indexAddr u60 sz67 (congrArg (fun A => some (Value.slice A f.subs.length c)) hA1) rfl (hkl) rfl) ?_
  refine Xv rfl (v_loadN (vs := sbC f.subs[k]) u67 rfl sz67 rfl (fun i9 hi9 => at_ro (.head _) trivial (hc1 i9 hi9))) ?_
  refine x_alloc rfl rfl rfl zr67 ?_
  intro p12
  refine x_store0 [] rfl rfl rfl rfl sz67 rfl rfl ?_
  refine Ze (Zt ?_)
  refine w_seq_cut (σ := Unit) (fun z9 => True) (fun z9 => [(2, Vi h), (4, Pt p4), (6, Pt p6), (7, Value.string (nameF (gsR hs) h).1), (10, Pt p10), (8, Value.bool (nm || decide (f.subs[k].code = 97))), (9, Value.bool nb), (11, Vi (k : Nat)), (12, Pt p12)]) (fun z9 => (Bk p12 (sbC (if f.subs[k].code = 97 ∧ nm = false then (⟨97, (nameF (gsR hs) h).1⟩ : Sb) else f.subs[k])) 67) :: (Bk p10 [Value.string f.tag, .string f.ind, .string f.data, rowV S o.length] 62) :: (Bk p6 [Value.string ⟨#[]⟩, .string ⟨#[]⟩, .string ⟨#[]⟩, .slice none 0 0] 62) :: (Bk p4 (flV8 f (.slice A f.subs.length c)) 62) :: rowO 67 S) (fun z9 => [(w, fun _ => True)]) ?_ ?_
  ·refine w_seq ?_
   refine Zr ?_
   refine Xf 0 rfl u67 rfl sz5 ?_
   refine Xl rfl u5 rfl (at_ownL (vs := sbC f.subs[k]) (.head _) rfl) ?_
   refine Xb rfl (v_eql rfl rfl) fun b44 hb44 => ?_
   refine Xm ?_
   refine Xg ?_
   refine Xj rfl rfl rfl (fun hg0 => by subst hg0; (try simp only [Qy]); exact v_not rfl) fun b47 hb47 => ?_
   refine Xb rfl (v_and rfl rfl) fun b48 hb48 => ?_
   refine Ze (Zt ?_)
   refine w_cond rfl (fun hc48 => ?_) fun hc48 => ?_
   ·simp only [hb48, hb47, hnm, hb44, Qz, ne_eq] at hc48
    rw [← hnm] at hc48
    have hcd : f.subs[k].code = 97 := code_eq.1 hc48.1
    have hE1 : (if f.subs[k].code = 97 ∧ nm = false then (⟨97, (nameF (gsR hs) h).1⟩ : Sb) else f.subs[k]) = ⟨97, (nameF (gsR hs) h).1⟩ := if_pos ⟨hcd, hc48.2⟩
    refine Zs (Zr ?_)
    refine Xm ?_
    refine Xf 1 rfl u67 rfl sz9 ?_
    refine x_store [] rfl rfl rfl rfl sz9 rfl (by show 1 + 1 ≤ 2; decide) ?_
    refine Ze (Zt (Zr ?_))
    refine Xa ?_
    refine Ze ?_
    exact c_norm () trivial (by rw [decide_eq_true hcd, Bool.or_true]; repeat (first | exact Sub.nil | refine Sub.cons rfl ?_)) (fun w1 h => h.to (by rw [hE1]; unfold sbC; rw [hcd]; rfl))
   simp only [hb48, hb47, hnm, hb44, Qz, ne_eq] at hc48
   rw [← hnm] at hc48
   have hE1 : (if f.subs[k].code = 97 ∧ nm = false then (⟨97, (nameF (gsR hs) h).1⟩ : Sb) else f.subs[k]) = f.subs[k] := if_neg (fun h9 => by rcases hc48 with q | q; (· exact q (code_eq.2 h9.1)); rw [h9.2] at q; cases q)
   refine w_skip ?_
   exact c_norm () trivial (by rw [show (nm || decide (f.subs[k].code = 97)) = nm from by rcases hc48 with q | q; (· rw [decide_eq_false (fun h9 => q (code_eq.2 h9)), Bool.or_false]); rw [q]; rfl]; repeat (first | exact Sub.nil | refine Sub.cons rfl ?_)) (fun w1 h => h.to (by rw [hE1]; rfl))
  rintro _ _
  refine w_seq_cut (σ := Unit) (fun z9 => True) (fun z9 => [(2, Vi h), (4, Pt p4), (6, Pt p6), (7, Value.string (nameF (gsR hs) h).1), (10, Pt p10), (8, Value.bool (nm || decide (f.subs[k].code = 97))), (9, Value.bool (nb || decide (f.subs[k].code = 48))), (11, Vi (k : Nat)), (12, Pt p12)]) (fun z9 => (Bk p12 (sbC (if f.subs[k].code = 97 ∧ nm = false then (⟨97, (nameF (gsR hs) h).1⟩ : Sb) else if f.subs[k].code = 48 ∧ nb = false then ⟨48, (itoaS h)⟩ else f.subs[k])) 67) :: (Bk p10 [Value.string f.tag, .string f.ind, .string f.data, rowV S o.length] 62) :: (Bk p6 [Value.string ⟨#[]⟩, .string ⟨#[]⟩, .string ⟨#[]⟩, .slice none 0 0] 62) :: (Bk p4 (flV8 f (.slice A f.subs.length c)) 62) :: rowO 67 S) (fun z9 => [(w, fun _ => True)]) ?_ ?_
  ·refine w_seq ?_
   refine Zr ?_
   refine Xf 0 rfl u67 rfl sz5 ?_
   refine Xl rfl u5 rfl (at_ownL (vs := sbC (if f.subs[k].code = 97 ∧ nm = false then (⟨97, (nameF (gsR hs) h).1⟩ : Sb) else f.subs[k])) (.head _) rfl) ?_
   refine Xb rfl (v_eql rfl rfl) fun b53 hb53 => ?_
   refine Xm ?_
   refine Xg ?_
   refine Xj rfl rfl rfl (fun hg0 => by subst hg0; (try simp only [Qy]); exact v_not rfl) fun b56 hb56 => ?_
   refine Xb rfl (v_and rfl rfl) fun b57 hb57 => ?_
   refine Ze (Zt ?_)
   refine w_cond rfl (fun hc57 => ?_) fun hc57 => ?_
   ·simp only [hb57, hb56, hnb, hb53, Qz, ne_eq] at hc57
    rw [← hnb] at hc57
    have hcd : f.subs[k].code = 48 := by
     have h9 : (if f.subs[k].code = 97 ∧ nm = false then (⟨97, (nameF (gsR hs) h).1⟩ : Sb) else f.subs[k]).code = 48 := code_eq.1 hc57.1
     by_cases hq : f.subs[k].code = 97 ∧ nm = false
     ·rw [if_pos hq] at h9; cases h9
     rw [if_neg hq] at h9; exact h9
    have hn97 : ¬f.subs[k].code = 97 := by rw [hcd]; decide
    have hE1 : (if f.subs[k].code = 97 ∧ nm = false then (⟨97, (nameF (gsR hs) h).1⟩ : Sb) else f.subs[k]) = f.subs[k] := if_neg (fun h9 => hn97 h9.1)
    have hE2 : (if f.subs[k].code = 97 ∧ nm = false then (⟨97, (nameF (gsR hs) h).1⟩ : Sb) else if f.subs[k].code = 48 ∧ nb = false then ⟨48, (itoaS h)⟩ else f.subs[k]) = ⟨48, (itoaS h)⟩ := by rw [if_neg (fun h9 => hn97 h9.1), if_pos ⟨hcd, hc57.2⟩]
    refine Zs (Zr ?_)
    refine Xm ?_
    refine x_callv rfl rfl rfl Tryz.func15 Zk rfl (fun w1 hw1 => r_Decimal h w1 (by omega) (by unfold in64; omega)) ?_
    refine Xf 1 rfl u67 rfl sz9 ?_
    refine x_store [] rfl rfl rfl rfl sz9 rfl (by show 1 + 1 ≤ 2; decide) ?_
    refine Ze (Zt (Zr ?_))
    refine Xa ?_
    refine Ze ?_
    exact c_norm () trivial (by rw [decide_eq_true hcd, Bool.or_true]; repeat (first | exact Sub.nil | refine Sub.cons rfl ?_)) (fun w1 h => h.to (by rw [hE2, hE1]; unfold sbC; rw [hcd]; rfl))
   simp only [hb57, hb56, hnb, hb53, Qz, ne_eq] at hc57
   rw [← hnb] at hc57
   have hE2 : (if f.subs[k].code = 97 ∧ nm = false then (⟨97, (nameF (gsR hs) h).1⟩ : Sb) else if f.subs[k].code = 48 ∧ nb = false then ⟨48, (itoaS h)⟩ else f.subs[k]) = (if f.subs[k].code = 97 ∧ nm = false then (⟨97, (nameF (gsR hs) h).1⟩ : Sb) else f.subs[k]) := by
    by_cases hq : f.subs[k].code = 97 ∧ nm = false
    ·rw [if_pos hq, if_pos hq]
    rw [if_neg hq, if_neg hq]
    refine if_neg (fun h9 => ?_)
    rcases hc57 with q | q
    ·rw [if_neg hq] at q; exact q (code_eq.2 h9.1)
    rw [h9.2] at q; cases q
   have hq48 : (nb || decide (f.subs[k].code = 48)) = nb := by
    rcases hc57 with q | q
    ·by_cases h8 : f.subs[k].code = 48
     ·exact absurd (code_eq.2 (show (if f.subs[k].code = 97 ∧ nm = false then (⟨97, (nameF (gsR hs) h).1⟩ : Sb) else f.subs[k]).code = 48 from by rw [if_neg (fun h9 => by rw [h8] at h9; exact absurd h9.1 (by decide))]; exact h8)) q
     rw [decide_eq_false h8, Bool.or_false]
    rw [q]; rfl
   refine w_skip ?_
   exact c_norm () trivial (by rw [hq48]; repeat (first | exact Sub.nil | refine Sub.cons rfl ?_)) (fun w1 h => h.to (by rw [hE2]))
  rintro _ _
  refine Zr ?_
  refine Xf 3 rfl u62 rfl sz60 ?_
  refine Xl rfl u60 rfl (at_ownL (vs := [Value.string f.tag, .string f.ind, .string f.data, rowV S o.length]) (.tail _ (.head _)) rfl) ?_
  refine Xv rfl (v_load_blk u67 rfl rfl (.head _) (by exact sz67)) ?_
  refine x_buildSliceL (cs := sbC (if f.subs[k].code = 97 ∧ nm = false then (⟨97, (nameF (gsR hs) h).1⟩ : Sb) else if f.subs[k].code = 48 ∧ nb = false then ⟨48, (itoaS h)⟩ else f.subs[k])) rfl rfl rfl u60 sz67 zr67 rfl rfl rfl ?_
  intro p64
  refine x_append (e := 67) ((Bk p64 (sbC (if f.subs[k].code = 97 ∧ nm = false then (⟨97, (nameF (gsR hs) h).1⟩ : Sb) else if f.subs[k].code = 48 ∧ nb = false then ⟨48, (itoaS h)⟩ else f.subs[k])) 67) :: (Bk p12 (sbC (if f.subs[k].code = 97 ∧ nm = false then (⟨97, (nameF (gsR hs) h).1⟩ : Sb) else if f.subs[k].code = 48 ∧ nb = false then ⟨48, (itoaS h)⟩ else f.subs[k])) 67) :: (Bk p10 [Value.string f.tag, .string f.ind, .string f.data, rowV S o.length] 62) :: (Bk p6 [Value.string ⟨#[]⟩, .string ⟨#[]⟩, .string ⟨#[]⟩, .slice none 0 0] 62) :: (Bk p4 (flV8 f (.slice A f.subs.length c)) 62) :: []) (l2 := []) S (len := o.length) (xs := o.flatMap sbC) rfl rfl rfl rfl (by simp) hS u60 ap67 rfl rfl (m := 1) (news := sbC (if f.subs[k].code = 97 ∧ nm = false then (⟨97, (nameF (gsR hs) h).1⟩ : Sb) else if f.subs[k].code = 48 ∧ nb = false then ⟨48, (itoaS h)⟩ else f.subs[k])) (fun i9 hi9 => at_ownL (vs := sbC (if f.subs[k].code = 97 ∧ nm = false then (⟨97, (nameF (gsR hs) h).1⟩ : Sb) else if f.subs[k].code = 48 ∧ nb = false then ⟨48, (itoaS h)⟩ else f.subs[k])) (.head _) (by rw [Nat.zero_add]; exact List.getElem?_eq_getElem hi9)) rfl Zx (by omega) fun S' hS' => ?_
  refine Xf 3 rfl u62 rfl sz60 ?_
  refine x_store (cs := [Value.string f.tag, .string f.ind, .string f.data, rowV S o.length]) (off := 3) (e := 62) (l2 := (Bk p6 [Value.string ⟨#[]⟩, .string ⟨#[]⟩, .string ⟨#[]⟩, .slice none 0 0] 62) :: (Bk p4 (flV8 f (.slice A f.subs.length c)) 62) :: rowO 67 S') ([(Bk p64 (sbC (if f.subs[k].code = 97 ∧ nm = false then (⟨97, (nameF (gsR hs) h).1⟩ : Sb) else if f.subs[k].code = 48 ∧ nb = false then ⟨48, (itoaS h)⟩ else f.subs[k])) 67), (Bk p12 (sbC (if f.subs[k].code = 97 ∧ nm = false then (⟨97, (nameF (gsR hs) h).1⟩ : Sb) else if f.subs[k].code = 48 ∧ nb = false then ⟨48, (itoaS h)⟩ else f.subs[k])) 67)]) rfl rfl rfl (by simp) sz60 rfl (by show 3 + 1 ≤ 4; decide) ?_
  refine Ze (b_norm (Zt (Zr ?_)))
  refine Xm ?_
  refine Xv rfl (v_addi rfl rfl rfl Zo) ?_
  refine Xa ?_
  refine Ze ?_
  exact l_norm (k + 1, nm || decide (f.subs[k].code = 97), nb || decide (f.subs[k].code = 48), o ++ [(if f.subs[k].code = 97 ∧ nm = false then (⟨97, (nameF (gsR hs) h).1⟩ : Sb) else if f.subs[k].code = 48 ∧ nb = false then ⟨48, (itoaS h)⟩ else f.subs[k])], S') ⟨hkl, by dsimp only; rw [List.length_append, hol]; rfl, by dsimp only; rw [hh97, ← hnm], by dsimp only; rw [hh48, ← hnb], by dsimp only; rw [List.append_assoc]; rw [hdk] at hch; exact hch, by dsimp only; rw [List.length_append, sbC_app]; exact hS'⟩ (by simp only; omega) Zu (fun w1 h => (h.less ((List.sublist_cons_self _ _).trans (List.sublist_cons_self _ _)) (fun _ h => h)).to (by dsimp only; rw [List.length_append]; rfl))
 simp only [hb34, Qz, ne_eq] at hc34
 obtain rfl : k = f.subs.length := by omega
 rw [List.take_of_length_le (Nat.le_refl _)] at hnm hnb
 rw [List.drop_length, show chgL (nameF (gsR hs) h).1 (itoaS h) nm nb [] = [] from rfl, List.append_nil] at hch
 refine w_exit ?_
 refine t_exit ?_
 refine t_exit ?_
 refine b_hit ?_
 refine Zt ?_
 refine w_seq_cut (σ := List Sb × RowS) (fun z => z.1 = (if hasC 97 f.subs = true then chgL (nameF (gsR hs) h).1 (itoaS h) false false f.subs else ⟨97, (nameF (gsR hs) h).1⟩ :: chgL (nameF (gsR hs) h).1 (itoaS h) false false f.subs) ∧ rowOK 2 z.2 z.1.length (z.1.flatMap sbC)) (fun z => [(2, Vi h), (4, Pt p4), (6, Pt p6), (7, Value.string (nameF (gsR hs) h).1), (10, Pt p10), (9, Value.bool nb)]) (fun z => (Bk p10 [Value.string f.tag, .string f.ind, .string f.data, rowV z.2 z.1.length] 62) :: (Bk p6 [Value.string ⟨#[]⟩, .string ⟨#[]⟩, .string ⟨#[]⟩, .slice none 0 0] 62) :: (Bk p4 (flV8 f (.slice A f.subs.length c)) 62) :: rowO 67 z.2) (fun z => [(w, fun _ => True)]) ?_ ?_
 ·refine w_seq ?_
  refine Zr ?_
  refine Xm ?_
  refine Xb rfl (v_not rfl) fun b68 hb68 => ?_
  refine Ze (Zt ?_)
  refine w_cond rfl (fun hc68 => ?_) fun hc68 => ?_
  ·simp only [hb68, hnm, Qz, ne_eq] at hc68
   have hn : hasC 97 f.subs = false := by first | exact hc68 | (rw [← hnm]; exact hc68)
   obtain ⟨gS, csS, cpS, rfl, _⟩ := hS.cell (j := 0) (by rw [flC_len (c := sbC) (m := 2) (fun _ => rfl)]; omega)
   refine Zr ?_
   refine Xm ?_
   refine Xv (v := Value.agg (sbC (⟨97, (nameF (gsR hs) h).1⟩ : Sb)).toArray) rfl (v_buildL (cs := sbC (⟨97, (nameF (gsR hs) h).1⟩ : Sb)) (places := [(0, 1), (1, 1)]) u67 zr67 Zk rfl rfl) ?_
   refine x_buildSliceL (cs := sbC (⟨97, (nameF (gsR hs) h).1⟩ : Sb)) rfl rfl rfl u60 sz67 zr67 rfl rfl rfl ?_
   intro p71
   refine Xf 3 rfl u62 rfl sz60 ?_
   refine Xl rfl u60 rfl (at_ownL (vs := [Value.string f.tag, .string f.ind, .string f.data, rowV (some (gS, csS, cpS)) o.length]) (.tail _ (.head _)) rfl) ?_
   refine x_append (e := 67) [] (l2 := (Bk p10 [Value.string f.tag, .string f.ind, .string f.data, rowV (some (gS, csS, cpS)) o.length] 62) :: (Bk p6 [Value.string ⟨#[]⟩, .string ⟨#[]⟩, .string ⟨#[]⟩, .slice none 0 0] 62) :: (Bk p4 (flV8 f (.slice A f.subs.length c)) 62) :: rowO 67 (some (gS, csS, cpS))) (some (p71, sbC (⟨97, (nameF (gsR hs) h).1⟩ : Sb), 1)) (len := 1) (xs := sbC (⟨97, (nameF (gsR hs) h).1⟩ : Sb)) rfl rfl rfl rfl rfl ⟨rfl, Nat.le_refl _, (by show 1 ≤ maxLen; simp only [maxLen]; omega), rfl, rfl⟩ u60 ap67 rfl (by rw [flC_len (c := sbC) (m := 2) (fun _ => rfl)]) (m := o.length) (news := o.flatMap sbC) (fun i9 hi9 => at_ownL (vs := csS) (.tail _ (.tail _ (.tail _ (.tail _ (.head _))))) (by rw [Nat.zero_add]; obtain ⟨_, _, _, k4, k5⟩ := hS; dsimp only at k4 k5; have h9 := List.getElem?_eq_getElem hi9; rw [← h9, ← k5, List.getElem?_take_of_lt (by rw [flC_len (c := sbC) (m := 2) (fun _ => rfl)] at hi9; exact hi9)])) (sbC_one _) Zx (by omega) fun S' hS' => ?_
   refine Xf 3 rfl u62 rfl sz60 ?_
   refine x_store (cs := [Value.string f.tag, .string f.ind, .string f.data, rowV (some (gS, csS, cpS)) o.length]) (off := 3) (e := 62) (l2 := (Bk p6 [Value.string ⟨#[]⟩, .string ⟨#[]⟩, .string ⟨#[]⟩, .slice none 0 0] 62) :: (Bk p4 (flV8 f (.slice A f.subs.length c)) 62) :: rowO 67 (some (gS, csS, cpS))) (rowO 67 S') rfl rfl rfl (by simp) sz60 rfl (by show 3 + 1 ≤ 4; decide) ?_
   refine Ze ?_
   exact c_norm ((⟨97, (nameF (gsR hs) h).1⟩ : Sb) :: o, S') ⟨by dsimp only; rw [hn, if_neg Bool.false_ne_true, hch], by dsimp only; rw [List.length_cons, Nat.add_comm]; exact hS'⟩ Zu (fun w1 h => ((h.less ((List.Sublist.refl _).append ((List.nil_sublist _).cons_cons _ |>.cons_cons _ |>.cons_cons _)) (fun _ h => h)).perm List.perm_append_comm).to (by dsimp only; rw [List.length_cons, Nat.add_comm]; rfl))
  simp only [hb68, hnm, Qz, ne_eq] at hc68
  have hn : hasC 97 f.subs = true := by first | exact hc68 | (rw [← hnm]; exact hc68)
  refine w_skip ?_
  exact c_norm (o, S) ⟨by dsimp only; rw [hn, if_pos rfl, hch], hS⟩ Zu (fun w1 h => h)
 rintro ⟨o2, S2⟩ ⟨ho2, hS2⟩
 refine w_state ([(2, Vi h), (4, Pt p4), (6, Pt p6), (7, Value.string (nameF (gsR hs) h).1), (10, Pt p10), (9, Value.bool nb)]) ((Bk p10 [Value.string f.tag, .string f.ind, .string f.data, rowV S2 o2.length] 62) :: (Bk p6 [Value.string ⟨#[]⟩, .string ⟨#[]⟩, .string ⟨#[]⟩, .slice none 0 0] 62) :: (Bk p4 (flV8 f (.slice A f.subs.length c)) 62) :: rowO 67 S2) ([(w, fun _ => True)]) ?_
 dsimp only at ho2 hS2
 refine w_seq_cut (σ := List Sb × RowS) (fun z => z.1 = rewS (gsR hs) h f.subs ∧ rowOK 2 z.2 z.1.length (z.1.flatMap sbC)) (fun z => [(2, Vi h), (4, Pt p4), (6, Pt p6), (7, Value.string (nameF (gsR hs) h).1), (10, Pt p10)]) (fun z => (Bk p10 [Value.string f.tag, .string f.ind, .string f.data, rowV z.2 z.1.length] 62) :: (Bk p6 [Value.string ⟨#[]⟩, .string ⟨#[]⟩, .string ⟨#[]⟩, .slice none 0 0] 62) :: (Bk p4 (flV8 f (.slice A f.subs.length c)) 62) :: rowO 67 z.2) (fun z => [(w, fun _ => True)]) ?_ ?_
 ·refine w_seq ?_
  refine Zr ?_
  refine Xm ?_
  refine Xb rfl (v_not rfl) fun b77 hb77 => ?_
  refine Ze (Zt ?_)
  refine w_cond rfl (fun hc77 => ?_) fun hc77 => ?_
  ·simp only [hb77, hnb, Qz, ne_eq] at hc77
   have hq : hasC 48 f.subs = false := by first | exact hc77 | (rw [← hnb]; exact hc77)
   have hl2 : o2.length ≤ 1001 := by rw [ho2]; split <;> simp only [List.length_cons, chgL_len] <;> omega
   refine rg_draw 6 [(true, 0), (true, 1), (true, 2), (true, 3), (true, 4), (false, 5)] Zk Zk ?_
   refine Xf 3 rfl u62 rfl sz60 ?_
   refine Xl rfl u60 rfl (at_ownL (vs := [Value.string f.tag, .string f.ind, .string f.data, rowV S2 o2.length]) (.head _) rfl) ?_
   refine Xm ?_
   refine x_callv rfl rfl rfl Tryz.func15 Zk rfl (fun w1 hw1 => r_Decimal h w1 (by omega) (by unfold in64; omega)) ?_
   refine Xv (v := Value.agg (sbC (⟨48, (itoaS h)⟩ : Sb)).toArray) rfl (v_buildL (cs := sbC (⟨48, (itoaS h)⟩ : Sb)) (places := [(0, 1), (1, 1)]) u67 zr67 Zk rfl rfl) ?_
   refine x_buildSliceL (cs := sbC (⟨48, (itoaS h)⟩ : Sb)) rfl rfl rfl u60 sz67 zr67 rfl rfl rfl ?_
   intro p83
   refine x_append (e := 67) ((Bk p83 (sbC (⟨48, (itoaS h)⟩ : Sb)) 67) :: (Bk p10 [Value.string f.tag, .string f.ind, .string f.data, rowV S2 o2.length] 62) :: (Bk p6 [Value.string ⟨#[]⟩, .string ⟨#[]⟩, .string ⟨#[]⟩, .slice none 0 0] 62) :: (Bk p4 (flV8 f (.slice A f.subs.length c)) 62) :: []) (l2 := []) S2 (len := o2.length) (xs := o2.flatMap sbC) rfl rfl rfl rfl (by simp) hS2 u60 ap67 rfl rfl (m := 1) (news := sbC (⟨48, (itoaS h)⟩ : Sb)) (fun i9 hi9 => at_ownL (vs := sbC (⟨48, (itoaS h)⟩ : Sb)) (.head _) (by rw [Nat.zero_add]; exact List.getElem?_eq_getElem hi9)) rfl Zx (by omega) fun S' hS' => ?_
   refine Xf 3 rfl u62 rfl sz60 ?_
   refine x_store (cs := [Value.string f.tag, .string f.ind, .string f.data, rowV S2 o2.length]) (off := 3) (e := 62) (l2 := (Bk p6 [Value.string ⟨#[]⟩, .string ⟨#[]⟩, .string ⟨#[]⟩, .slice none 0 0] 62) :: (Bk p4 (flV8 f (.slice A f.subs.length c)) 62) :: rowO 67 S') ([(Bk p83 (sbC (⟨48, (itoaS h)⟩ : Sb)) 67)]) rfl rfl rfl (by simp) sz60 rfl (by show 3 + 1 ≤ 4; decide) ?_
   refine Ze ?_
   exact c_norm (o2 ++ [(⟨48, (itoaS h)⟩ : Sb)], S') ⟨by dsimp only; rw [chg_rew, hq, if_neg Bool.false_ne_true, ho2], by dsimp only; rw [List.length_append, sbC_app]; exact hS'⟩ Zu (fun w1 h => (h.less (List.sublist_cons_self _ _) (fun _ h => h)).to (by dsimp only; rw [List.length_append]; rfl))
  simp only [hb77, hnb, Qz, ne_eq] at hc77
  have hq : hasC 48 f.subs = true := by first | exact hc77 | (rw [← hnb]; exact hc77)
  refine w_skip ?_
  exact c_norm (o2, S2) ⟨by dsimp only; rw [chg_rew, hq, if_pos rfl, ho2], hS2⟩ Zu (fun w1 h => h)
 rintro ⟨o3, S3⟩ ⟨ho3, hS3⟩
 refine w_state ([(2, Vi h), (4, Pt p4), (6, Pt p6), (7, Value.string (nameF (gsR hs) h).1), (10, Pt p10)]) ((Bk p10 [Value.string f.tag, .string f.ind, .string f.data, rowV S3 o3.length] 62) :: (Bk p6 [Value.string ⟨#[]⟩, .string ⟨#[]⟩, .string ⟨#[]⟩, .slice none 0 0] 62) :: (Bk p4 (flV8 f (.slice A f.subs.length c)) 62) :: rowO 67 S3) ([(w, fun _ => True)]) ?_
 dsimp only at ho3 hS3
 refine Zs (Zr ?_)
 refine Xv rfl (v_load_blk u62 rfl rfl (.head _) (by exact sz62)) ?_
 refine x_store0 [_] rfl rfl rfl rfl sz62 rfl rfl ?_
 refine Ze (Zt (w_ret ?_))
 refine retc (cs := (flV8 { f with subs := o3 } (rowV S3 o3.length)).toArray) (e := 62) rfl rfl (.tail _ (.head _)) u62 rfl Zk (fun w' hm => ?_)
 subst ho3
 exact ⟨S3, rfl, hS3, hm.less (((List.Sublist.refl _).cons _).cons _ |>.cons _) (fun _ h => h)⟩
end Go.Proofs.YtnflcekodobdlaaGreatDoor

namespace Go.Proofs.YtnflcekodobdlaaGreatDoor
open Go.RowKit Go.PK
attribute [local irreducible] WX
theorem SRK.rdi {x : SR} {s : SG8} (h : SRK x s) {w : World} {n : Nat} {own : List (Nat × Obj)} {ro : List Snap} (hm : Mem w own ro) (hin : ∀ q ∈ SRO x n, q ∈ own) : RdR w x.ps x.H x.hs where
 st := at_ownL (vs := [rowV x.H x.hs.length, rowV x.R n]) (hin _ (.head _)) rfl w hm
 row := hm.rowR h.row (fun q hq => hin q (.tail _ (List.mem_append_left _ hq)))
 rows := fun y hy q hq => hm.own_at q (hin q (.tail _ (List.mem_append_right _ (List.mem_append_right _ (List.mem_flatMap.2 ⟨y, hy, hq⟩)))))
 ok := h.ok
theorem rew_ok {hs : List HG} (hsz : ∀ h ∈ hs, szH 4000000 h) {h : Int} (hin : in64 h) {f : Fl} (hf : okFl f) : okFl { f with subs := rewS hs h f.subs } :=
 ⟨hf.1, fun s hs' => (putS_mem hs').elim (fun h2 => (putS_mem h2).elim (hf.2 s) (fun h3 => by
  rw [h3]
  show okS (nameF hs h).1
  unfold nameF
  cases hl : lkH hs h with
  | none => unfold okS; decide +kernel
  | some g =>
   have h4 := (hsz g (lkH_mem hl).1).1
   unfold okS; dsimp only; omega)) (fun h2 => by rw [h2]; have q1 := itoaS_size hin; show okS (itoaS _); unfold okS; omega)⟩
theorem flat_kept {D : Nat → Prop} {ws w : World} {A : Option Addr} {cp : Nat} {xs : List Fl} (h : sliceRd tyFl D ws (.slice A xs.length cp) xs) (hl : Kept D (fun _ => True) ws w) {k : Nat} (hk : k < xs.length) : ∃ b o A' c', A = some ⟨b, o, none⟩ ∧ (∀ j (hj : j < (flV8 xs[k] (.slice A' xs[k].subs.length c')).length), w.cell? ⟨b, o + k * 4 + j, none⟩ = some (flV8 xs[k] (.slice A' xs[k].subs.length c'))[j]) ∧ sliceRd tySb D ws (.slice A' xs[k].subs.length c') xs[k].subs ∧ xs[k].ok := by
 obtain ⟨b, o, v, h1, h2, h3, h4, h5⟩ := fl8_at h hk
 obtain ⟨A', c', rfl, _⟩ := id h4
 exact ⟨b, o, A', c', h1, fun j hj => (World.cell?_of_block (hl _ h2 (cell_lt (p := ⟨b, o + k * 4 + j, none⟩) (h3 j hj))).2).trans (h3 j hj), h4, h5⟩
theorem rw_p1 {α : Type} {S C E : List α} {a b c d e : α} : (S ++ (a :: b :: c :: d :: e :: (C ++ E))).Perm (a :: b :: c :: d :: e :: (C ++ (E ++ S))) := by
 rw [← List.append_assoc C E S]
 exact (List.perm_append_comm (l₁ := S) (l₂ := a :: b :: c :: d :: e :: (C ++ E)))
theorem rw_p2 {α : Type} {a b c d e : α} {C E X S : List α} : (a :: b :: c :: d :: e :: (C ++ ((E ++ X) ++ S))).Perm (a :: b :: c :: d :: e :: (C ++ ((E ++ S) ++ X))) := by
 rw [List.append_assoc E X S, List.append_assoc E S X]
 exact (((((List.Perm.append_left C (List.Perm.append_left E List.perm_append_comm)).cons _).cons _).cons _).cons _).cons _
set_option maxHeartbeats 4000000 in
theorem r_Rewrite {pm : Nat} {M : RowS} {fs : List FD} (w : World) (hp : w.cell? ⟨pm, 0, none⟩ = some (rowV M fs.length)) (hR : rowOK 6 M fs.length (fdsC fs)) (hW : ∀ q ∈ rowO 28 M, w.heap[q.1]? = some q.2) (hok : FsOK fs) (hsz : ∀ q ∈ fs, q.txt.size ≤ 4000000) {A : Option Addr} {c : Nat} {gs : List Fl} (kd lv : Int) {D : Nat → Prop} {ws : World} (hxs0 : sliceRd tyFl D ws (.slice A gs.length c) gs) (hkp : Kept D (fun _ => True) ws w) (hid : ∀ h ∈ (stF fs).hs, h.id < 1000000000000000000) (hgl : gs.length ≤ 100000) (hsm : ∀ f ∈ gs, smFl f ∧ okFl f) (hne : ∀ f ∈ gs, amg ruledL f.tag = true → f.subs ≠ []) (hT : wordsP (titF gs) = wordsP (ttlR gs)) :
  Calls Tryz.prog 29 #[Pt pm, .agg [Value.int .u8 kd, .int .u8 lv, .slice A gs.length c].toArray] w fun e w' => ∃ es C, e = .returned (.agg #[.int .u8 kd, .int .u8 lv, rowV C es.length]) ∧ es.map (·.f) = gs.map (rewX (stF fs).hs (titF gs)) ∧ rowOK 4 C es.length (es.flatMap feC) ∧ (∀ e ∈ es, goodE ws D e ∧ okFl e.f) ∧ Mem w' (rowO 62 C ++ EOs 67 es) [(w, fun _ => True)] := by
 have hxs := hxs0.keep hkp
 have hft : (fstF gs).subs.length ≤ 1000 ∧ ∀ s ∈ (fstF gs).subs, s.text.size ≤ 1000 := by
  rcases fstF_mem (gs := gs) with h9 | h9
  ·exact (hsm _ h9).1
  rw [h9]; exact ⟨by decide, fun s hs => by cases hs⟩
 have httl : (ttlR gs).size ≤ 4000000 := by
  have h9 := joinS_sz 1000 (txtS (fstF gs).subs) (fun t ht => by unfold txtS at ht; obtain ⟨s, hs, rfl⟩ := List.mem_map.1 ht; exact hft.2 s (List.mem_filter.1 hs).1)
  have h8 := txtS_len (fstF gs).subs
  have h7 : (txtS (fstF gs).subs).length * 1001 ≤ 1000 * 1001 := Nat.mul_le_mul_right _ (by omega)
  unfold ttlR
  omega
 refine enter (vs := [Pt pm, .agg [Value.int .u8 kd, .int .u8 lv, .slice A gs.length c].toArray]) Tryz.func29 rfl Tryz.ntmps29 rfl ?_
 refine Zs (Zr ?_)
 refine x_box rfl rfl rfl rfl ?_
 intro p3
 refine x_alloc rfl rfl rfl zr51 ?_
 intro p4
 refine Ze (Zt (Zs (Zr ?_)))
 refine Xm ?_
 refine x_own (τ := SR) (fun x => Pt x.ps) (fun x => SRK x (stF fs)) (fun x => SRO x (stF fs).ref.length ++ ((Bk p4 [Value.int .u8 0, .int .u8 0, .slice none 0 0] 51) :: [(Bk p3 [Value.int .u8 kd, .int .u8 lv, .slice A gs.length c] 51)])) rfl rfl rfl Tryz.func65 Zk rfl (fun w1 hw1 => (r_State (pm := pm) w1 ((World.cell?_of_block (a := ⟨pm, 0, none⟩) ((hw1.base (w0 := w) (by simp)).block pm (cell_lt hp))).trans hp) hR (fun q hq => ((hw1.base (w0 := w) (by simp)).block _ (heap_lt (hW q hq))).trans (hW q hq)) hok hsz).mono fun e w2 ⟨x, h1, h2, h3⟩ => ⟨x, h1, h3.base (by simp), h2, Mem.join2 hw1 h3⟩) fun x hx => ?_
 refine x_mem (own' := (Bk p4 [Value.int .u8 0, .int .u8 0, .slice none 0 0] 51) :: (Bk p3 [Value.int .u8 kd, .int .u8 lv, .slice A gs.length c] 51) :: SRO x (stF fs).ref.length) (fun w1 h => h.perm (List.perm_append_comm (l₁ := SRO x (stF fs).ref.length))) ?_
 have hlen8 : x.hs.length ≤ 100000 := by have q1 := (fs_bnd' hok).hs; rw [← hx.hs] at q1; unfold gsR at q1; rw [List.length_map] at q1; omega
 have hbd8 := fs_bnd' hok
 have hacy8 : Acy (gsR x.hs) := by rw [hx.hs]; exact fs_acy' hok
 have hszX : ∀ y ∈ (stF fs).hs, szH 4000000 y := sz_stF hsz
 have hsz8 : ∀ y ∈ x.hs, szH 4000000 y.g := fun y hy => sz_stF hsz y.g (by rw [← hx.hs]; exact List.mem_map_of_mem hy)
 have hol8 : ∀ y ∈ x.hs, y.g.oth.length ≤ 100000 ∧ y.g.spl.length ≤ 100000 := fun y hy => by have q1 := hbd8.oth y.g (by rw [← hx.hs]; exact List.mem_map_of_mem hy); omega
 have hidx : ∀ h ∈ gsR x.hs, h.id < 1000000000000000000 := by rw [hx.hs]; exact hid
 refine Xa ?_
 refine Ze (Zt (Zs (Zr ?_)))
 refine x_buildSliceL (cs := ruledL.map Value.string) rfl rfl rfl u38 sz9 zr9 rfl rfl Zk ?_
 intro p18
 refine Xa ?_
 refine Ze (Zt (Zs (Zr ?_)))
 refine Xv (v := Value.agg [Value.int .u8 kd, .int .u8 lv, .slice A gs.length c].toArray) rfl (v_load_blk u51 rfl rfl (.tail _ (.tail _ (.head _))) (by exact sz51)) ?_
 refine x_own (τ := Value × Bool) (fun z => .tuple #[.agg (flV8 (fstF gs) z.1).toArray, .bool z.2]) (fun z => sliceRd tySb (fun _ => True) w z.1 (fstF gs).subs) (fun z => (Bk p18 (ruledL.map Value.string) 9) :: (Bk p4 [Value.int .u8 0, .int .u8 0, .slice none 0 0] 51) :: (Bk p3 [Value.int .u8 kd, .int .u8 lv, .slice A gs.length c] 51) :: SRO x (stF fs).ref.length) rfl rfl rfl Tryz.func33 Zk rfl (fun w1 hw1 => (r_First w1 hxs (hw1.base (by simp)) kd lv).mono fun e w2 ⟨v', bb, h1, h2, h3⟩ => ⟨(v', bb), h1, h3, h2, hw1.later h3⟩) ?_
 rintro ⟨v7, b7⟩ hv7
 obtain ⟨A7, c7, rfl, _⟩ := id hv7
 refine Xm ?_
 refine Xe ?_
 refine Xb rfl (v_extract rfl rfl) fun b23 hb23 => ?_
 refine x_alloc rfl rfl rfl zr62 ?_
 intro p7
 refine x_store0 [] rfl rfl rfl rfl sz62 rfl rfl ?_
 refine Xa ?_
 refine Ze (Zt (Zs (Zr ?_)))
 refine Xv (v := Value.agg (flV8 (fstF gs) (.slice A7 (fstF gs).subs.length c7)).toArray) rfl (v_load_blk u62 rfl rfl (.head _) (by exact sz62)) ?_
 refine x_callv rfl rfl rfl Tryz.func32 Zk rfl (fun w1 hw1 => r_Text w1 hv7 (hw1.base (by simp)) hft.1 hft.2) ?_
 refine Xa ?_
 refine Ze (Zt (Zs (Zr ?_)))
 refine Xf 0 rfl u51 rfl sz5 ?_
 refine Xl rfl u5 rfl (at_ownL (vs := [Value.int .u8 kd, .int .u8 lv, .slice A gs.length c]) (.tail _ (.tail _ (.tail _ (.head _)))) rfl) ?_
 refine Xf 1 rfl u51 rfl sz5 ?_
 refine Xl rfl u5 rfl (at_ownL (vs := [Value.int .u8 kd, .int .u8 lv, .slice A gs.length c]) (.tail _ (.tail _ (.tail _ (.head _)))) rfl) ?_
 refine Xv (v := Value.agg [Value.int .u8 kd, .int .u8 lv, .slice none 0 0].toArray) rfl (v_buildL (cs := [Value.int .u8 kd, .int .u8 lv, .slice none 0 0]) (places := [(0, 1), (1, 1), (2, 1)]) u51 zr51 Zk rfl rfl) ?_
 refine x_alloc rfl rfl rfl zr51 ?_
 intro p10
 refine x_store0 [] rfl rfl rfl rfl sz51 rfl rfl ?_
 refine Ze (Zt (Zs (Zs (Zr ?_))))
 refine Xa ?_
 refine Ze (Zt (w_block ?_))
 refine w_loop (σ := Nat × List FE × RowS) (fun z => z.1 ≤ gs.length ∧ z.2.1.map (·.f) = (gs.take z.1).map (rewX (stF fs).hs (titF gs)) ∧ rowOK 4 z.2.2 z.2.1.length (z.2.1.flatMap feC) ∧ ∀ e ∈ z.2.1, goodE ws D e ∧ okFl e.f) (fun z => [(3, Pt p3), (4, Pt p4), (5, Pt x.ps), (6, Value.slice (some ⟨p18, 0, none⟩) 5 5), (9, Value.string (ttlR gs)), (10, Pt p10), (11, Vi (z.1 : Nat))]) (fun z => (Bk p10 [Value.int .u8 kd, .int .u8 lv, rowV z.2.2 z.2.1.length] 51) :: (Bk p7 (flV8 (fstF gs) (.slice A7 (fstF gs).subs.length c7)) 62) :: (Bk p18 (ruledL.map Value.string) 9) :: (Bk p4 [Value.int .u8 0, .int .u8 0, .slice none 0 0] 51) :: (Bk p3 [Value.int .u8 kd, .int .u8 lv, .slice A gs.length c] 51) :: (rowO 62 z.2.2 ++ (EOs 67 z.2.1 ++ SRO x (stF fs).ref.length))) (fun z => [(w, fun _ => True)]) (fun z => gs.length - z.1) ((0, [], none)) (⟨Nat.zero_le _, rfl, rowOK_nil, fun e he => (by cases he)⟩) (l_start Zu (fun _ h => h)) ?_
 rintro ⟨k, es, C⟩ ⟨hk, hes, hC, hgd⟩
 refine w_state ([(3, Pt p3), (4, Pt p4), (5, Pt x.ps), (6, Value.slice (some ⟨p18, 0, none⟩) 5 5), (9, Value.string (ttlR gs)), (10, Pt p10), (11, Vi (k : Nat))]) ((Bk p10 [Value.int .u8 kd, .int .u8 lv, rowV C es.length] 51) :: (Bk p7 (flV8 (fstF gs) (.slice A7 (fstF gs).subs.length c7)) 62) :: (Bk p18 (ruledL.map Value.string) 9) :: (Bk p4 [Value.int .u8 0, .int .u8 0, .slice none 0 0] 51) :: (Bk p3 [Value.int .u8 kd, .int .u8 lv, .slice A gs.length c] 51) :: (rowO 62 C ++ (EOs 67 es ++ SRO x (stF fs).ref.length))) ([(w, fun _ => True)]) ?_
 dsimp only at hk hes hC hgd
 have hel : es.length = k := by have h9 := congrArg List.length hes; rw [List.length_map, List.length_map, List.length_take, Nat.min_eq_left hk] at h9; exact h9
 refine Zs (Zs (Zr ?_))
 refine Xm ?_
 refine Xf 2 rfl u51 rfl sz49 ?_
 refine Xl rfl u49 rfl (at_ownL (vs := [Value.int .u8 kd, .int .u8 lv, .slice A gs.length c]) (.tail _ (.tail _ (.tail _ (.tail _ (.head _))))) rfl) ?_
 refine Xv (v := Vi (gs.length : Nat)) rfl (v_len_slice u49 rfl) ?_
 refine Xb rfl (v_lss rfl rfl) fun b35 hb35 => ?_
 refine Ze (Zt ?_)
 refine w_cond rfl (fun hc35 => ?_) fun hc35 => ?_
 ·simp only [hb35, Qz, ne_eq] at hc35
  have hkl : k < gs.length := by omega
  obtain ⟨b1, o1, A1, c1, hA1, hc1, hs0, hok1⟩ := flat_kept hxs0 hkp hkl
  have hs1 := hs0.keep hkp
  obtain ⟨hsm1, hok2⟩ := hsm _ (List.getElem_mem hkl)
  have htk : gs.take (k + 1) = gs.take k ++ [gs[k]] := List.take_succ_eq_append_getElem hkl
  refine w_skip (Zt (Zs (w_block (Zs (Zr ?_)))))
  refine Xf 2 rfl u51 rfl sz49 ?_
  refine Xl rfl u49 rfl (at_ownL (vs := [Value.int .u8 kd, .int .u8 lv, .slice A gs.length c]) (.tail _ (.tail _ (.tail _ (.tail _ (.head _))))) rfl) ?_
  refine Xm ?_
  refine Xv rfl (v_indexAddr u49 sz62 (congrArg (fun A => some (Value.slice A gs.length c)) hA1) rfl (hkl) rfl) ?_
  refine Xv rfl (v_loadN (vs := feC (⟨gs[k], .slice A1 gs[k].subs.length c1, none⟩ : FE)) u62 rfl sz62 rfl (fun i hi => at_ro (.head _) trivial (hc1 i hi))) ?_
  refine x_alloc rfl rfl rfl zr62 ?_
  intro p12
  refine x_store0 [] rfl rfl rfl rfl sz62 rfl rfl ?_
  refine Ze (Zt (Zs (Zr ?_)))
  refine Xm ?_
  refine Xf 0 rfl u62 rfl sz9 ?_
  refine Xl rfl u9 rfl (at_ownL (vs := feC (⟨gs[k], .slice A1 gs[k].subs.length c1, none⟩ : FE)) (.head _) rfl) ?_
  refine x_callb rfl rfl rfl Tryz.func66 Zk rfl (fun w1 hw1 => r_among (ws := ruledL) (R := some (p18, ruledL.map Value.string, 5)) w1 (hw1.rowR ⟨rfl, (by show 5 ≤ 5; decide), (by show 5 ≤ maxLen; simp only [maxLen]; omega), rfl, by rw [flat1]; rfl⟩ (fun q hq => by rw [List.mem_singleton.1 hq]; exact .tail _ (.tail _ (.tail _ (.head _))))) (by show 5 ≤ 100000000; omega)) fun b46 hb46 => ?_
  refine Xa ?_
  refine Ze (Zt ?_)
  refine w_seq_cut (σ := FE) (fun e9 => e9.f = rewX (stF fs).hs (titF gs) gs[k] ∧ goodE ws D e9 ∧ okFl e9.f) (fun e9 => [(3, Pt p3), (4, Pt p4), (5, Pt x.ps), (6, Value.slice (some ⟨p18, 0, none⟩) 5 5), (9, Value.string (ttlR gs)), (10, Pt p10), (11, Vi (k : Nat)), (12, Pt p12)]) (fun e9 => (Bk p12 (feC e9) 62) :: (rowO 67 e9.S ++ ((Bk p10 [Value.int .u8 kd, .int .u8 lv, rowV C es.length] 51) :: (Bk p7 (flV8 (fstF gs) (.slice A7 (fstF gs).subs.length c7)) 62) :: (Bk p18 (ruledL.map Value.string) 9) :: (Bk p4 [Value.int .u8 0, .int .u8 0, .slice none 0 0] 51) :: (Bk p3 [Value.int .u8 kd, .int .u8 lv, .slice A gs.length c] 51) :: (rowO 62 C ++ (EOs 67 es ++ SRO x (stF fs).ref.length))))) (fun e9 => [(w, fun _ => True)]) ?_ ?_
  ·refine w_seq ?_
   refine Zr ?_
   refine Xm ?_
   refine Ze (Zt ?_)
   refine w_cond rfl (fun hc47 => ?_) fun hc47 => ?_
   ·simp only [hb46, Qz, ne_eq] at hc47
    have hru : amg ruledL gs[k].tag = true := hc47
    have hlk8 := hdF_lk (fs_acy' hok) hid gs[k].subs (wordsP (ttlR gs))
    refine Zs (Zr ?_)
    refine Xm ?_
    refine Xm ?_
    refine Xv (v := Value.agg (feC (⟨gs[k], .slice A1 gs[k].subs.length c1, none⟩ : FE)).toArray) rfl (v_load_blk u62 rfl rfl (.head _) (by exact sz62)) ?_
    refine x_callv (v := Vi (hdF (stF fs).hs gs[k].subs).1) rfl rfl rfl Tryz.func68 Zk rfl (fun w1 hw1 => by rw [← hx.hs]; exact r_hd w1 (hx.rdi hw1 (fun q hq => .tail _ (.tail _ (.tail _ (.tail _ (.tail _ (.tail _ (List.mem_append_right _ (List.mem_append_right _ hq))))))))) hlen8 hacy8 hidx hsz8 (fun y hy => (hol8 y hy).1) hs1 (hw1.base (by simp)) hsm1.1 hsm1.2) ?_
    refine Xm ?_
    refine x_callv (v := Value.tuple #[Vi (resolveF (stF fs).hs (wordsP (ttlR gs)) (hdF (stF fs).hs gs[k].subs).1).1, .bool (resolveF (stF fs).hs (wordsP (ttlR gs)) (hdF (stF fs).hs gs[k].subs).1).2]) rfl rfl rfl Tryz.func67 Zk rfl (fun w1 hw1 => by rw [← hx.hs]; exact r_ResolveS w1 (hx.rdi hw1 (fun q hq => .tail _ (.tail _ (.tail _ (.tail _ (.tail _ (.tail _ (List.mem_append_right _ (List.mem_append_right _ hq))))))))) hlen8 hacy8 (fun y hy => (hol8 y hy).2) _ (ttlR gs) httl) ?_
    refine Xm ?_
    refine Xe ?_
    refine Xb rfl (v_extract rfl rfl) fun b56 hb56 => ?_
    refine Xa ?_
    refine Xa ?_
    refine Ze (Zt (Zs (Zr ?_)))
    refine Xm ?_
    refine Ze (Zt ?_)
    refine w_cond rfl (fun hc57 => ?_) fun hc57 => ?_
    ·simp only [hb56, Qz, ne_eq] at hc57
     have hy2 : (hdF (stF fs).hs gs[k].subs).2 = true := by rw [← hlk8.1]; exact hc57
     obtain ⟨hre, g8, hg8⟩ := hlk8.2 hy2
     obtain ⟨n8, hn8⟩ := (fs_acy' hok).res (wordsP (ttlR gs)) hg8
     obtain ⟨g9, hg9, _⟩ := hn8.last
     have hlook : (lkH (gsR x.hs) (resolveF (stF fs).hs (wordsP (ttlR gs)) (hdF (stF fs).hs gs[k].subs).1).1).isSome = true := by rw [hx.hs, hre, hg9]; rfl
     have hi64 : in64 (resolveF (stF fs).hs (wordsP (ttlR gs)) (hdF (stF fs).hs gs[k].subs).1).1 := by
      rw [hre]
      obtain ⟨m1, m2⟩ := lkH_mem hg9
      have q1 := ((fs_acy' hok).pos g9 m1).1
      have q2 := hid g9 m1
      rw [← m2]; unfold in64; omega
     refine Zr ?_
     refine Xm ?_
     refine Xv (v := Value.agg (feC (⟨gs[k], .slice A1 gs[k].subs.length c1, none⟩ : FE)).toArray) rfl (v_load_blk u62 rfl rfl (.head _) (by exact sz62)) ?_
     refine Xm ?_
     refine x_own (τ := RowS) (fun S' => .agg (feC (⟨{ gs[k] with subs := rewS (stF fs).hs (resolveF (stF fs).hs (wordsP (ttlR gs)) (hdF (stF fs).hs gs[k].subs).1).1 gs[k].subs }, rowV S' (rewS (stF fs).hs (resolveF (stF fs).hs (wordsP (ttlR gs)) (hdF (stF fs).hs gs[k].subs).1).1 gs[k].subs).length, S'⟩ : FE)).toArray) (fun S' => rowOK 2 S' (rewS (stF fs).hs (resolveF (stF fs).hs (wordsP (ttlR gs)) (hdF (stF fs).hs gs[k].subs).1).1 gs[k].subs).length ((rewS (stF fs).hs (resolveF (stF fs).hs (wordsP (ttlR gs)) (hdF (stF fs).hs gs[k].subs).1).1 gs[k].subs).flatMap sbC)) (fun S' => rowO 67 S' ++ ((Bk p12 (feC (⟨gs[k], .slice A1 gs[k].subs.length c1, none⟩ : FE)) 62) :: ((Bk p10 [Value.int .u8 kd, .int .u8 lv, rowV C es.length] 51) :: (Bk p7 (flV8 (fstF gs) (.slice A7 (fstF gs).subs.length c7)) 62) :: (Bk p18 (ruledL.map Value.string) 9) :: (Bk p4 [Value.int .u8 0, .int .u8 0, .slice none 0 0] 51) :: (Bk p3 [Value.int .u8 kd, .int .u8 lv, .slice A gs.length c] 51) :: (rowO 62 C ++ (EOs 67 es ++ SRO x (stF fs).ref.length))))) rfl rfl rfl Tryz.func69 Zk rfl (fun w1 hw1 => by
      have h9 := r_chg w1 (hx.rdi hw1 (fun q hq => .tail _ (.tail _ (.tail _ (.tail _ (.tail _ (.tail _ (List.mem_append_right _ (List.mem_append_right _ hq))))))))) hlen8 hacy8 hidx hs1 (hw1.base (by simp)) hsm1.1 (hne _ (List.getElem_mem hkl) hru) (resolveF (stF fs).hs (wordsP (ttlR gs)) (hdF (stF fs).hs gs[k].subs).1).1 hlook
      rw [hx.hs] at h9
      exact h9.mono fun e w2 ⟨S', h1, h2, h3⟩ => ⟨S', h1, h3.base (by simp), h2, Mem.join2 hw1 h3⟩) ?_
     intro S' hS'
     refine x_store0 (rowO 67 S') rfl rfl rfl rfl sz62 rfl rfl ?_
     refine Ze ?_
     exact c_norm (⟨{ gs[k] with subs := rewS (stF fs).hs (resolveF (stF fs).hs (wordsP (ttlR gs)) (hdF (stF fs).hs gs[k].subs).1).1 gs[k].subs }, rowV S' (rewS (stF fs).hs (resolveF (stF fs).hs (wordsP (ttlR gs)) (hdF (stF fs).hs gs[k].subs).1).1 gs[k].subs).length, S'⟩ : FE) ⟨by rw [rewX_yes hru hy2, hT, ← hre], .inr ⟨rfl, hS'⟩, rew_ok hszX hi64 hok2⟩ Zu (fun w1 h => (h.perm List.perm_middle).to rfl)
    simp only [hb56, Qz, ne_eq] at hc57
    have hy2 : ¬(hdF (stF fs).hs gs[k].subs).2 = true := by rw [← hlk8.1, hc57]; exact Bool.false_ne_true
    refine w_skip ?_
    exact c_norm (⟨gs[k], .slice A1 gs[k].subs.length c1, none⟩ : FE) ⟨by rw [rewX_no (fun h9 => hy2 h9.2)], .inl ⟨rfl, hs0⟩, hok2⟩ Zu (fun w1 h => h)
   simp only [hb46, Qz, ne_eq] at hc47
   have hru : ¬amg ruledL gs[k].tag = true := by rw [hc47]; exact Bool.false_ne_true
   refine w_skip ?_
   exact c_norm (⟨gs[k], .slice A1 gs[k].subs.length c1, none⟩ : FE) ⟨by rw [rewX_no (fun h9 => hru h9.1)], .inl ⟨rfl, hs0⟩, hok2⟩ Zu (fun w1 h => h)
  rintro e9 ⟨hef, heg, heo⟩
  refine w_state ([(3, Pt p3), (4, Pt p4), (5, Pt x.ps), (6, Value.slice (some ⟨p18, 0, none⟩) 5 5), (9, Value.string (ttlR gs)), (10, Pt p10), (11, Vi (k : Nat)), (12, Pt p12)]) ((Bk p12 (feC e9) 62) :: (rowO 67 e9.S ++ ((Bk p10 [Value.int .u8 kd, .int .u8 lv, rowV C es.length] 51) :: (Bk p7 (flV8 (fstF gs) (.slice A7 (fstF gs).subs.length c7)) 62) :: (Bk p18 (ruledL.map Value.string) 9) :: (Bk p4 [Value.int .u8 0, .int .u8 0, .slice none 0 0] 51) :: (Bk p3 [Value.int .u8 kd, .int .u8 lv, .slice A gs.length c] 51) :: (rowO 62 C ++ (EOs 67 es ++ SRO x (stF fs).ref.length))))) ([(w, fun _ => True)]) ?_
  refine Zr ?_
  refine Xf 2 rfl u51 rfl sz49 ?_
  refine Xl rfl u49 rfl (at_ownL (vs := [Value.int .u8 kd, .int .u8 lv, rowV C es.length]) (.tail _ (List.mem_append_right _ (.head _))) rfl) ?_
  refine Xv (v := Value.agg (feC e9).toArray) rfl (v_load_blk u62 rfl rfl (.head _) (by exact sz62)) ?_
  refine x_buildSliceL (cs := feC e9) rfl rfl rfl u49 sz62 zr62 rfl rfl rfl ?_
  intro p65
  refine x_append (e := 62) ((Bk p65 (feC e9) 62) :: (Bk p12 (feC e9) 62) :: (rowO 67 e9.S ++ ((Bk p10 [Value.int .u8 kd, .int .u8 lv, rowV C es.length] 51) :: (Bk p7 (flV8 (fstF gs) (.slice A7 (fstF gs).subs.length c7)) 62) :: (Bk p18 (ruledL.map Value.string) 9) :: (Bk p4 [Value.int .u8 0, .int .u8 0, .slice none 0 0] 51) :: (Bk p3 [Value.int .u8 kd, .int .u8 lv, .slice A gs.length c] 51) :: []))) (l2 := EOs 67 es ++ SRO x (stF fs).ref.length) C (len := es.length) (xs := es.flatMap feC) rfl rfl rfl rfl (by simp) hC u49 ap62 rfl rfl (m := 1) (news := feC e9) (fun i9 hi9 => at_ownL (vs := feC e9) (.head _) (by rw [Nat.zero_add]; exact List.getElem?_eq_getElem hi9)) (by have h9 := feC_one (es := [e9]) (ws := ws) (D := D) (fun e he => by rw [List.mem_singleton.1 he]; exact heg); simpa using h9) Zx (by omega) fun C' hC' => ?_
  refine Xf 2 rfl u51 rfl sz49 ?_
  refine x_store (cs := [Value.int .u8 kd, .int .u8 lv, rowV C es.length]) (off := 2) (e := 51) (l2 := (Bk p7 (flV8 (fstF gs) (.slice A7 (fstF gs).subs.length c7)) 62) :: (Bk p18 (ruledL.map Value.string) 9) :: (Bk p4 [Value.int .u8 0, .int .u8 0, .slice none 0 0] 51) :: (Bk p3 [Value.int .u8 kd, .int .u8 lv, .slice A gs.length c] 51) :: (rowO 62 C' ++ (EOs 67 es ++ SRO x (stF fs).ref.length))) ((Bk p65 (feC e9) 62) :: (Bk p12 (feC e9) 62) :: rowO 67 e9.S) rfl rfl rfl (by simp) sz49 rfl (by show 2 + 1 ≤ 3; decide) ?_
  refine Ze (b_norm (Zt (Zr ?_)))
  refine Xm ?_
  refine Xv rfl (v_addi rfl rfl rfl Zo) ?_
  refine Xa ?_
  refine Ze ?_
  exact l_norm (k + 1, es ++ [e9], C') ⟨hkl, by dsimp only; rw [List.map_append, hes, htk, List.map_append]; exact congrArg _ (by rw [List.map_singleton, hef]; rfl), by dsimp only; rw [List.length_append, List.flatMap_append]; simpa using hC', fun e he => by rcases List.mem_append.1 he with he | he; (· exact hgd e he); rw [List.mem_singleton.1 he]; exact ⟨heg, heo⟩⟩ (by simp only; omega) Zu (fun w1 h => ((h.less (((List.Sublist.refl _).cons _).cons _) (fun _ h => h)).perm (rw_p1 (S := rowO 67 e9.S) (C := rowO 62 C') (E := EOs 67 es ++ SRO x (stF fs).ref.length) |>.trans rw_p2)).to (by dsimp only; rw [EOs_snoc, List.length_append]; rfl))
 simp only [hb35, Qz, ne_eq] at hc35
 obtain rfl : k = gs.length := by omega
 rw [List.take_of_length_le (Nat.le_refl _)] at hes
 refine w_exit ?_
 refine t_exit ?_
 refine t_exit ?_
 refine b_hit ?_
 refine Zt (Zs (Zr ?_))
 refine Xv rfl (v_load_blk u51 rfl rfl (.head _) (by exact sz51)) ?_
 refine x_store0 [_, _, _] rfl rfl rfl rfl sz51 rfl rfl ?_
 refine Ze (Zt (w_ret ?_))
 refine retc (cs := #[.int .u8 kd, .int .u8 lv, rowV C es.length]) (e := 51) rfl rfl (.tail _ (.tail _ (.tail _ (.head _)))) u51 rfl Zk (fun w' hm => ⟨es, C, rfl, hes, hC, fun e he => (hgd e he), ?_⟩)
 exact hm.less (((((((List.Sublist.refl _).append (List.sublist_append_left _ _)).cons _).cons _).cons _).cons _).cons _) (fun _ h => h)
end Go.Proofs.YtnflcekodobdlaaGreatDoor

namespace Go.Proofs.YtnflcekodobdlaaGreatDoor
open Go.RowKit Go.PK
attribute [local irreducible] WX
def titlesL : List ByteArray := ⟨#[]⟩ :: (namesR ++ [⟨#[84, 111, 109, 32, 83, 97, 119, 121, 101, 114]⟩, ⟨#[79, 108, 100, 32, 115, 111, 110, 103, 115]⟩, ⟨#[65, 32, 98, 111, 111, 107, 32, 111, 102, 32, 109, 117, 115, 105, 99]⟩, ⟨#[83, 79, 78, 71, 83, 32, 111, 102, 32, 84, 111, 109]⟩])
theorem titN_in (n : Int) : titN n ∈ titlesL := by
 have h1 : ∀ t ∈ titL, t ∈ titlesL := by
  intro t ht
  simp only [titL, List.mem_cons, List.not_mem_nil, or_false] at ht
  rcases ht with rfl | rfl | rfl | rfl | rfl <;> simp [titlesL]
 unfold titN
 rw [List.getD_eq_getElem?_getD]
 cases h : titL[(n % 5).toNat]? with
 | none => exact .head _
 | some x => exact h1 x (List.mem_of_getElem? h)
theorem titS_txt (l : List Sb) : ∀ a : ByteArray, l.foldl (fun a s => if s.code = 97 ∨ s.code = 98 then a ++ (spcB ++ s.text) else a) a = (txtS l).foldl (fun a t => a ++ (spcB ++ t)) a := by
 induction l with
 | nil => intro a; rfl
 | cons s l ih =>
  intro a
  rw [List.foldl_cons, ih]
  unfold txtS
  by_cases h : s.code = 97 ∨ s.code = 98
  ·rw [if_pos h, List.filter_cons_of_pos (by unfold isAB; exact decide_eq_true h)]; rfl
  rw [if_neg h, List.filter_cons_of_neg (by unfold isAB; rw [decide_eq_false h]; exact Bool.false_ne_true)]
theorem words_of {l : List Sb} (h : txtS l = [] ∨ ∃ t ∈ titlesL, txtS l = [t] ∨ txtS l = [t, t]) : wordsP (titS l) = wordsP (joinS (txtS l)) := by
 have e : titS l = (txtS l).foldl (fun a t => a ++ (spcB ++ t)) ⟨#[]⟩ := titS_txt l _
 rw [e]
 rcases h with h | ⟨t, ht, h | h⟩
 ·rw [h]; rfl
 ·have h2 := List.all_eq_true.1 words_one t ht
  rw [Bool.and_eq_true] at h2
  rw [h]
  exact of_decide_eq_true h2.1
 have h2 := List.all_eq_true.1 words_one t ht
 rw [Bool.and_eq_true] at h2
 rw [h]
 exact of_decide_eq_true h2.2
theorem txtS_app (a c : List Sb) : txtS (a ++ c) = txtS a ++ txtS c := by unfold txtS; rw [List.filter_append, List.map_append]
theorem txtS_one {s : Sb} (h : s.code = 100 ∨ s.code = 48) : txtS [s] = [] := by
 unfold txtS
 rw [List.filter_cons_of_neg (by unfold isAB; rcases h with h | h <;> (rw [h]; decide))]
 rfl
theorem rqA_txt (q1 q2 : Int) : txtS (rqA q1 q2) = [] ∨ ∃ t ∈ titlesL, txtS (rqA q1 q2) = [t] := by
 unfold rqA
 split
 ·refine .inr ⟨_, ?_, rfl⟩
  show namesR.getD _ _ ∈ titlesL
  rw [List.getD_eq_getElem?_getD]
  cases h : namesR[(q2 % 8).toNat]? with
  | none => exact .head _
  | some x => exact .tail _ (List.mem_append_left _ (List.mem_of_getElem? h))
 exact .inl rfl
theorem rqD_txt (q1 q2 : Int) : txtS (rqD q1 q2) = [] ∨ ∃ t ∈ titlesL, txtS (rqD q1 q2) = [t] ∨ txtS (rqD q1 q2) = [t, t] := by
 have hB : txtS (rqB q1 q2) = txtS (rqA q1 q2) := by unfold rqB; rw [txtS_app, txtS_one (.inl rfl), List.append_nil]
 have hC : txtS (rqC q1 q2) = txtS (rqA q1 q2) := by
  unfold rqC
  split
  ·rw [txtS_app, txtS_one (.inr rfl), List.append_nil, hB]
  exact hB
 unfold rqD
 split
 ·rw [txtS_app, hC]
  rcases rqA_txt q1 q2 with h | ⟨t, ht, h⟩
  ·rw [h]; exact .inl rfl
  rw [h]; exact .inr ⟨t, ht, .inr rfl⟩
 rw [hC]
 rcases rqA_txt q1 q2 with h | ⟨t, ht, h⟩
 ·exact .inl h
 exact .inr ⟨t, ht, .inl h⟩
theorem rqF_words {tt : ByteArray} (ht : tt ∈ titlesL) (l : List (List Int)) : wordsP (titF (rqF tt l)) = wordsP (ttlR (rqF tt l)) := by
 rw [titF_fst]
 unfold ttlR
 refine words_of ?_
 have h0 := fstF_mem (gs := rqF tt l)
 generalize fstF (rqF tt l) = g at h0 ⊢
 rcases h0 with h | h
 ·unfold rqF rqK at h
  rcases List.mem_append.1 h with h | h
  ·rcases List.mem_cons.1 h with h | h
   ·rw [h]; exact .inl rfl
   obtain ⟨q, _, hq⟩ := List.mem_map.1 h
   rw [← hq]
   exact rqD_txt _ _
  rw [List.mem_singleton.1 h]
  exact .inr ⟨tt, ht, .inl rfl⟩
 rw [h]; exact .inl rfl
theorem rqF_ne (tt : ByteArray) (l : List (List Int)) : ∀ f ∈ rqF tt l, amg ruledL f.tag = true → f.subs ≠ [] := fun f hf hr => by
 unfold rqF rqK at hf
 rcases List.mem_append.1 hf with h | h
 ·rcases List.mem_cons.1 h with rfl | h
  ·exact absurd hr (by decide)
  obtain ⟨q, _, rfl⟩ := List.mem_map.1 h
  show rqD _ _ ≠ []
  have hB : rqB (q.getD 1 0) (q.getD 2 0) ≠ [] := by unfold rqB; exact List.append_ne_nil_of_right_ne_nil _ (by simp)
  have hC : rqC (q.getD 1 0) (q.getD 2 0) ≠ [] := by
   unfold rqC
   split
   ·exact List.append_ne_nil_of_right_ne_nil _ (by simp)
   exact hB
  unfold rqD
  split
  ·exact List.append_ne_nil_of_right_ne_nil _ hC
  exact hC
 rw [List.mem_singleton.1 h]; exact List.cons_ne_nil _ _
theorem rqF_len (tt : ByteArray) (l : List (List Int)) : (rqF tt l).length ≤ 100000 ∧ rqF tt l ≠ [] := by
 unfold rqF
 refine ⟨?_, List.append_ne_nil_of_right_ne_nil _ (List.cons_ne_nil _ _)⟩
 unfold rqK
 rw [List.length_append, List.length_cons, List.length_map, List.length_take]
 show min 12 l.length + 1 + 1 ≤ _
 omega
theorem rec_fix {fs : List Fl} {es : List FE} {C : RowS} {own' : List (Nat × Obj)} {ro : List Snap} {w w0 : World} (h : RecW fs es C) (hok : ∀ f ∈ fs, okFl f) (hm : Mem w ((rowO 62 C ++ EOs 67 es) ++ own') ro) (hro : (w0, fun _ => True) ∈ ro) : sliceRd tyFl (notOwn own') w (rowV C es.length) fs := by
 have hno : ∀ p ∈ rowO 62 C ++ EOs 67 es, notOwn own' p.1 := fun p hp => hm.notIn (.refl _) hp
 rw [← h.fs]
 exact fe_rd (TF := 62) (T := 67) (D := fun _ => True) hm hro h.row (fun e he => ⟨.inr (h.ok e he), hok _ (by rw [← h.fs]; exact List.mem_map_of_mem he)⟩) (fun p hp => List.mem_append_left _ (List.mem_append_left _ hp)) (fun e he p hp => List.mem_append_left _ (List.mem_append_right _ (EO_mem he hp))) (fun k _ hlt p hp he => by have h9 := hm.apart p (List.mem_append_right _ hp) _ hro trivial; simp only at h9; omega) (fun e he p hp => hno p (List.mem_append_right _ (EO_mem he hp))) (fun p hp => hno p (List.mem_append_left _ hp))
theorem seed_id {l : List (List Int)} : ∀ h ∈ (stF (takeAll (feedsF l))).hs, h.id < 1000000000000000000 :=
 idsP_of (p := fun i => i < 1000000000000000000) fun f hf => by
  obtain ⟨_, _, _, _, _, _, _, j8, _⟩ := feedsF_sm f (takeAll_sub _ f hf)
  omega
end Go.Proofs.YtnflcekodobdlaaGreatDoor

namespace Go.Proofs.YtnflcekodobdlaaGreatDoor
open Go.RowKit Go.PK
attribute [local irreducible] WX
theorem rw_p3 {α : Type} {p : α} {A B C : List α} : (p :: (A ++ (B ++ C))).Perm (A ++ (C ++ (p :: B))) :=
 List.perm_middle.symm.trans (List.Perm.append_left A ((List.Perm.cons p List.perm_append_comm).trans List.perm_middle.symm))
theorem rew_rd {es2 : List FE} {C2 : RowS} {own : List (Nat × Obj)} {ro : List Snap} {w1 w2 ws : World} {D : Nat → Prop} (hm1 : Mem w1 own ro) (hsn : (ws, D) ∈ ro) (hC : rowOK 4 C2 es2.length (es2.flatMap feC)) (hg : ∀ e ∈ es2, goodE ws D e ∧ okFl e.f) (hm2 : Mem w2 (rowO 62 C2 ++ EOs 67 es2) [(w1, fun _ => True)]) : sliceRd tyFl (notOwn own) w2 (rowV C2 es2.length) (es2.map (·.f)) := by
 have hj := Mem.join2 hm1 hm2
 have hno : ∀ p ∈ rowO 62 C2 ++ EOs 67 es2, notOwn own p.1 := fun p hp => hj.notIn (.refl _) hp
 exact fe_rd (TF := 62) (T := 67) hj hsn hC hg (fun p hp => List.mem_append_left _ (List.mem_append_left _ hp)) (fun e he p hp => List.mem_append_left _ (List.mem_append_right _ (EO_mem he hp))) (fun k hk hlt p hp he => by have h9 := hm1.apart p hp _ hsn (by rw [he]; exact hk); simp only at h9; omega) (fun e he p hp => hno p (List.mem_append_right _ (EO_mem he hp))) (fun p hp => hno p (List.mem_append_left _ hp))
set_option maxHeartbeats 4000000 in
theorem lawRewrites {A1 : Option Addr} {c1 : Nat} {rs : List (List Int)} {A0 : Option Addr} {c0 : Nat} {qs : List (List Int)} (ti : Int) (w : World) (hti : in64 ti) (hg : sliceRd (tyArr (tyK .i64) 3) (fun _ => True) w (.slice A1 rs.length c1) rs) (hq : sliceRd (tyArr (tyK .i64) 4) (fun _ => True) w (.slice A0 qs.length c0) qs) (hL : LD w) :
  Calls Tryz.prog 5 #[.slice A0 qs.length c0, Vi ti, .slice A1 rs.length c1] w fun e w' => e = .returned (.bool (true)) ∧ Later w w' := by
 have hall := rqF_ok (titN ti) (titN_sz ti) rs
 have hok : ∀ f ∈ (rqF (titN ti) rs), okFl f := fun f hf => (hall f hf).2.1
 have hlen := rqF_len (titN ti) rs
 refine enter (vs := [.slice A0 qs.length c0, Vi ti, .slice A1 rs.length c1]) Tryz.func5 rfl Tryz.ntmps5 rfl ?_
 refine Zs (Zr ?_)
 refine Xa ?_
 refine Ze (Zt (Zs (Zr ?_)))
 refine x_callb rfl rfl rfl Tryz.func14 Zk rfl (fun w1 hw1 => c_sanity w1 (hL.later (hw1.base (by simp)))) fun b13 hb13 => ?_
 obtain rfl : b13 = true := hb13
 refine Xa ?_
 refine Ze (Zt (Zs (Zr ?_)))
 refine Xm ?_
 refine x_own (τ := RowS) (fun R => rowV R (feedsF qs).length) (fun R => rowOK 6 R (feedsF qs).length (fdsC (feedsF qs))) (fun R => rowO 28 R) rfl rfl rfl Tryz.func23 Zk rfl (fun w1 hw1 => (r_Feeds w1 (hq.keep (Kept.later (hw1.base (by simp))))).mono fun e w2 ⟨R, h1, h2, h3⟩ => ⟨R, h1, h3.base (by simp), h2, hw1.join h3⟩) fun R hR => ?_
 refine Xa ?_
 refine Ze (Zt (Zs (Zr ?_)))
 refine Xm ?_
 refine x_own (τ := FM8) (fun x => Pt x.pf) (fun x => FOK x (takeAll (feedsF qs))) (fun x => FO x (takeAll (feedsF qs)) ++ rowO 28 R) rfl rfl rfl Tryz.func24 Zk rfl (fun w1 hw1 => (c_taken w1 (hw1.rowR hR (fun q hq => hq)) (by have h9 := feedsF_len qs; omega) (fun f hf => fd_in (feedsF_sm f hf)) (hL.later (hw1.base (by simp)))).mono fun e w2 ⟨x, h1, h2, h3⟩ => ⟨x, h1, h3.base (by simp), h2, Mem.join2 hw1 h3⟩) fun x0 hx0 => ?_
 have px0 : x0.pf = x0.pf := rfl
 refine Xa ?_
 refine Ze (Zt (Zs (Zr ?_)))
 refine Xv rfl (v_buildL (places := [(0, 1)]) u48 zr48 Zk rfl rfl) ?_
 refine x_box rfl rfl rfl rfl ?_
 intro p19
 refine Xa ?_
 refine Ze (Zt (Zs (Zs (Zr ?_))))
 refine Xa ?_
 refine Ze (Zt (w_block ?_))
 refine w_loop (σ := Nat × RowS) (fun z => z.1 ≤ (feedsF qs).length ∧ rowOK 6 z.2 (takeAll ((feedsF qs).take z.1)).length (fdsC (takeAll ((feedsF qs).take z.1)))) (fun z => [(1, Vi ti), (2, Value.slice A1 rs.length c1), (7, Value.bool true), (8, rowV R (feedsF qs).length), (9, Pt x0.pf), (10, Pt p19), (11, Vi (z.1 : Nat))]) (fun z => MO8 p19 z.2 (takeAll ((feedsF qs).take z.1)).length ++ (FO x0 (takeAll (feedsF qs)) ++ rowO 28 R)) (fun z => [(w, fun _ => True)]) (fun z => (feedsF qs).length - z.1) ((0, none)) (⟨Nat.zero_le _, rowOK_nil⟩) (l_start Zu (fun w1 h => h.to rfl)) ?_
 rintro ⟨k, M⟩ ⟨hk, hM⟩
 refine w_state ([(1, Vi ti), (2, Value.slice A1 rs.length c1), (7, Value.bool true), (8, rowV R (feedsF qs).length), (9, Pt x0.pf), (10, Pt p19), (11, Vi (k : Nat))]) (MO8 p19 M (takeAll ((feedsF qs).take k)).length ++ (FO x0 (takeAll (feedsF qs)) ++ rowO 28 R)) ([(w, fun _ => True)]) ?_
 dsimp only at hk hM
 refine Zs (Zs (Zr ?_))
 refine Xm ?_
 refine Xm ?_
 refine Xv (v := Vi ((feedsF qs).length : Nat)) rfl (v_len_slice u24 rfl) ?_
 refine Xb rfl (v_lss rfl rfl) fun b23 hb23 => ?_
 refine Ze (Zt ?_)
 refine w_cond rfl (fun hc23 => ?_) fun hc23 => ?_
 ·simp only [hb23, Qz, ne_eq] at hc23
  have hkl : k < (feedsF qs).length := by omega
  obtain ⟨gF, csF, cpF, hRg, hcpF, hclF⟩ := fd_cell hR hkl
  have htk : (feedsF qs).take (k + 1) = (feedsF qs).take k ++ [(feedsF qs)[k]] := List.take_succ_eq_append_getElem hkl
  have ht1 : takeAll ((feedsF qs).take (k + 1)) = (takeF (takeAll ((feedsF qs).take k)) (feedsF qs)[k]).2 := by rw [htk, takeAll_snoc]
  refine w_skip (Zt (Zs (w_block (Zr ?_))))
  refine Xm ?_
  refine Xm ?_
  refine Xm ?_
  refine Xv rfl (v_indexAddr u24 sz28 (congrArg (fun R => some (rowV R (feedsF qs).length)) hRg) rfl (hkl) rfl) ?_
  refine Xv rfl (v_loadN (vs := (feedsF qs)[k].cells) u28 rfl sz28 rfl (fun i hi => at_ownL (vs := csF) (List.mem_append_right _ (List.mem_append_right _ (by rw [hRg]; exact .head _))) (by rw [Nat.zero_add]; exact (hclF i hi).trans (List.getElem?_eq_getElem hi)))) ?_
  refine x_turn (τ := RowS) (fst := #[]) (cap := #[]) (v := Vi (takeF (takeAll ((feedsF qs).take k)) (feedsF qs)[k]).1) (fun M' => rowOK 6 M' (takeF (takeAll ((feedsF qs).take k)) (feedsF qs)[k]).2.length (fdsC (takeF (takeAll ((feedsF qs).take k)) (feedsF qs)[k]).2)) (fun M' => MO8 p19 M' (takeF (takeAll ((feedsF qs).take k)) (feedsF qs)[k]).2.length ++ (FO x0 (takeAll (feedsF qs)) ++ rowO 28 R)) rfl rfl rfl Tryz.func25 Zk rfl (fun w1 hw1 => by
   simp only [Array.empty_append, Array.append_empty]
   exact (r_Take (f := (feedsF qs)[k]) (L := FO x0 (takeAll (feedsF qs)) ++ rowO 28 R) hM (takeAll_ok _) (fd_in (feedsF_sm _ (List.getElem_mem hkl))).2.2.2.2.2 hw1).mono fun e w2 ⟨h1, M', h2, h3⟩ => ⟨h1, M', h2, h3⟩) ?_
  intro M9 hM9
  refine Ze (b_norm (Zt (Zr ?_)))
  refine Xm ?_
  refine Xv rfl (v_addi rfl rfl rfl (by have h9 := feedsF_len qs; omega)) ?_
  refine Xa ?_
  refine Ze ?_
  exact l_norm (k + 1, M9) ⟨hkl, by dsimp only; rw [ht1]; exact hM9⟩ (by simp only; omega) Zu (fun w1 h => h.to (by dsimp only; rw [ht1]))
 simp only [hb23, Qz, ne_eq] at hc23
 obtain rfl : k = (feedsF qs).length := by omega
 rw [List.take_of_length_le (Nat.le_refl _)] at hM
 refine x_memW (own' := MO8 p19 M (takeAll (feedsF qs)).length ++ FO x0 (takeAll (feedsF qs))) (fun w1 h => (h.less ((List.Sublist.refl _).append (List.sublist_append_left _ _)) (fun _ h => h)).to (by rw [List.take_of_length_le (Nat.le_refl _)])) ?_
 refine w_exit ?_
 refine t_exit ?_
 refine t_exit ?_
 refine b_hit ?_
 refine Zt (Zs (Zr ?_))
 refine Xm ?_
 refine Xm ?_
 refine x_own (τ := List FE × RowS) (fun z => Value.agg #[.int .u8 97, .int .u8 109, rowV z.2 z.1.length]) (fun z => RecW (rqF (titN ti) rs) z.1 z.2) (fun z => (rowO 62 z.2 ++ EOs 67 z.1) ++ (MO8 p19 M (takeAll (feedsF qs)).length ++ FO x0 (takeAll (feedsF qs)))) rfl rfl rfl Tryz.func26 Zk rfl (fun w1 hw1 => (r_Record ti w1 hti (hg.keep (Kept.later (hw1.base (by simp))))).mono fun e w2 ⟨es, C, h1, h2, h3⟩ => ⟨(es, C), h1, h3.base (by simp), h2, Mem.join2 hw1 h3⟩) ?_
 rintro ⟨es, C⟩ hW
 obtain ⟨AC, cC, hCV⟩ := rowV_sl C es.length
 refine x_alloc rfl rfl rfl zr51 ?_
 intro p12
 refine x_store0 [] rfl rfl rfl rfl sz51 rfl rfl ?_
 refine Ze (Zt (Zs ?_))
 refine x_memW (own' := (rowO 62 C ++ EOs 67 es) ++ (FO x0 (takeAll (feedsF qs)) ++ ((p12, Obj.cells #[Value.int .u8 97, .int .u8 109, rowV C es.length] 51) :: MO8 p19 M (takeAll (feedsF qs)).length))) (fun w1 h => h.perm rw_p3) ?_
 refine w_fix (FO x0 (takeAll (feedsF qs)) ++ ((p12, Obj.cells #[Value.int .u8 97, .int .u8 109, rowV C es.length] 51) :: MO8 p19 M (takeAll (feedsF qs)).length)) (List.sublist_append_right _ _) fun w5 hw5 => ?_
 have hg5 := rec_fix hW hok hw5 (.head _)
 have hel : es.length = (rqF (titN ti) rs).length := by have h9 := congrArg List.length hW.fs; rw [List.length_map] at h9; exact h9
 have hCV2 : Value.slice AC (rqF (titN ti) rs).length cC = rowV C es.length := by rw [hCV, hel]
 have hg6 : sliceRd tyFl (notOwn (FO x0 (takeAll (feedsF qs)) ++ ((p12, Obj.cells #[Value.int .u8 97, .int .u8 109, rowV C es.length] 51) :: MO8 p19 M (takeAll (feedsF qs)).length))) w5 (.slice AC (rqF (titN ti) rs).length cC) (rqF (titN ti) rs) := by rw [hCV2]; exact hg5
 refine rg_inv ([(p12, Obj.cells #[Value.int .u8 97, .int .u8 109, rowV C es.length] 51)]) 18 (.flt 0 (.flt 1 (.flt 2 (.flt 3 (.flt 5 (.flt 6 (.gr 4 (.gr 7 (.gr 8 (.flt 9 (.flt 10 (.flt 11 (.flt 12 (.flt 13 (.gr 14 (.gr 15 (.flt 16 (.flt 17 .done)) .nil) .nil)))))) .nil) .nil) .nil))))))) (List.singleton_sublist.2 (by simp only [List.mem_append, List.mem_cons, true_or, or_true])) Zk Zk ?_
 refine k_val rfl rfl (v_move rfl) ?_
 refine k_val rfl rfl (v_move rfl) ?_
 refine k_valg rfl rfl rfl rfl (v_move rfl) ?_
 refine k_valg (v := Value.agg #[.int .u8 97, .int .u8 109, rowV C es.length]) rfl rfl rfl rfl (v_load_blk u51 rfl rfl (.head _) (by exact sz51)) ?_
 refine k_valg rfl rfl rfl rfl (v_move rfl) ?_
 refine k_valg (v := Value.agg #[.int .u8 97, .int .u8 109, rowV C es.length]) rfl rfl rfl rfl (v_load_blk u51 rfl rfl (.head _) (by exact sz51)) ?_
 refine k_gr ?_ k_nil
 refine x_turn_ng (τ := FM8) (fun y v wA wB => FOK y (takeAll (feedsF qs)) ∧ ∃ v', v = .agg #[.int .u8 97, .int .u8 109, v'] ∧ sliceRd tyFl (notOwn (FO y (takeAll (feedsF qs)) ++ ((p12, Obj.cells #[Value.int .u8 97, .int .u8 109, rowV C es.length] 51) :: MO8 p19 M (takeAll (feedsF qs)).length))) wB v' (rewF (stF (takeAll (feedsF qs))).hs (rqF (titN ti) rs))) (fun y => FO y (takeAll (feedsF qs)) ++ ((p12, Obj.cells #[Value.int .u8 97, .int .u8 109, rowV C es.length] 51) :: MO8 p19 M (takeAll (feedsF qs)).length)) rfl rfl rfl rfl Tryz.func28 Zk rfl (fun w1 hw1 => by
  have h := k_Rewrite (L := ((p12, Obj.cells #[Value.int .u8 97, .int .u8 109, rowV C es.length] 51) :: MO8 p19 M (takeAll (feedsF qs)).length)) (kd := 97) (lv := 109) hx0 seed_id (by first | exact .head _ | exact .tail _ (.head _)) hg5 hlen.2 hlen.1 hall (by first | exact .tail _ (.head _) | exact .tail _ (.tail _ (.head _))) hL hw1
  exact h.mono fun e w2 ⟨y, v', h1, ⟨h2, h3⟩, h4, h5⟩ => ⟨_, h1, y, ⟨h2, v', rfl, h4⟩, h5⟩) ?_
 rintro v39 x9 wA wB hwA ⟨hx9, v9, rfl, hr39⟩ hwB
 refine Ze ?_
 refine k_end (List.singleton_sublist.2 (by simp only [List.mem_append, List.mem_cons, true_or, or_true])) (by intro s hs; first | exact hs | exact List.mem_cons_of_mem _ hs | exact List.mem_cons_of_mem _ (List.mem_cons_of_mem _ hs)) ?_
 refine k_gr ?_ k_nil
 first
  | refine x_turn_ng (τ := Unit) (fun _ v wA wB => ∃ v', v = .agg #[.int .u8 97, .int .u8 109, v'] ∧ sliceRd tyFl (notOwn (FO x0 (takeAll (feedsF qs)) ++ ((p12, Obj.cells #[Value.int .u8 97, .int .u8 109, rowV C es.length] 51) :: MO8 p19 M (takeAll (feedsF qs)).length))) wB v' (rewF (stF (takeAll (feedsF qs))).hs (rqF (titN ti) rs))) (fun _ => FO x0 (takeAll (feedsF qs)) ++ ((p12, Obj.cells #[Value.int .u8 97, .int .u8 109, rowV C es.length] 51) :: MO8 p19 M (takeAll (feedsF qs)).length)) rfl rfl rfl rfl Tryz.func29 Zk rfl (fun w1 hw1 => by
   have h := r_Rewrite (pm := p19) (fs := (takeAll (feedsF qs))) (M := M) w1 (at_ownL (vs := [rowV M (takeAll (feedsF qs)).length]) (List.mem_append_right _ (.tail _ (.head _))) rfl w1 hw1) hM (fun q hq => hw1.own_at q (List.mem_append_right _ (.tail _ (.tail _ hq)))) hx0.ok (fun q hq => (hx0.sz q hq).2.2.2.2.2) 97 109 hg6 (fun k hk hlt => ⟨trivial, hw1.ro_at (w5, notOwn (FO x0 (takeAll (feedsF qs)) ++ ((p12, Obj.cells #[Value.int .u8 97, .int .u8 109, rowV C es.length] 51) :: MO8 p19 M (takeAll (feedsF qs)).length))) (by first | exact .head _ | exact .tail _ (.head _) | exact .tail _ (.tail _ (.head _)) | exact .tail _ (.tail _ (.tail _ (.head _)))) k hk hlt⟩) seed_id hlen.1 (fun f hf => ⟨(hall f hf).1, (hall f hf).2.1⟩) (rqF_ne _ _) (rqF_words (titN_in ti) rs)
   rw [hCV2] at h
   exact h.mono fun e w2 ⟨es2, C2, h1, h2, h3, h4, h5⟩ => ⟨_, h1, (), ⟨_, rfl, by unfold rewF; rw [← h2]; exact rew_rd hw1 (show (w5, notOwn (FO x0 (takeAll (feedsF qs)) ++ ((p12, Obj.cells #[Value.int .u8 97, .int .u8 109, rowV C es.length] 51) :: MO8 p19 M (takeAll (feedsF qs)).length))) ∈ _ from (by first | exact .head _ | exact .tail _ (.head _) | exact .tail _ (.tail _ (.head _)) | exact .tail _ (.tail _ (.tail _ (.head _))))) h3 h4 h5⟩, hw1.later (h5.base (by simp))⟩) ?_
  | refine x_turn_ng (τ := Unit) (fun _ v wA wB => ∃ v', v = .agg #[.int .u8 97, .int .u8 109, v'] ∧ sliceRd tyFl (notOwn (FO x9 (takeAll (feedsF qs)) ++ ((p12, Obj.cells #[Value.int .u8 97, .int .u8 109, rowV C es.length] 51) :: MO8 p19 M (takeAll (feedsF qs)).length))) wB v' (rewF (stF (takeAll (feedsF qs))).hs (rqF (titN ti) rs))) (fun _ => FO x9 (takeAll (feedsF qs)) ++ ((p12, Obj.cells #[Value.int .u8 97, .int .u8 109, rowV C es.length] 51) :: MO8 p19 M (takeAll (feedsF qs)).length)) rfl rfl rfl rfl Tryz.func29 Zk rfl (fun w1 hw1 => by
   have h := r_Rewrite (pm := p19) (fs := (takeAll (feedsF qs))) (M := M) w1 (at_ownL (vs := [rowV M (takeAll (feedsF qs)).length]) (List.mem_append_right _ (.tail _ (.head _))) rfl w1 hw1) hM (fun q hq => hw1.own_at q (List.mem_append_right _ (.tail _ (.tail _ hq)))) hx0.ok (fun q hq => (hx0.sz q hq).2.2.2.2.2) 97 109 hg6 (fun k hk hlt => ⟨trivial, hw1.ro_at (w5, notOwn (FO x0 (takeAll (feedsF qs)) ++ ((p12, Obj.cells #[Value.int .u8 97, .int .u8 109, rowV C es.length] 51) :: MO8 p19 M (takeAll (feedsF qs)).length))) (by first | exact .head _ | exact .tail _ (.head _) | exact .tail _ (.tail _ (.head _)) | exact .tail _ (.tail _ (.tail _ (.head _)))) k hk hlt⟩) seed_id hlen.1 (fun f hf => ⟨(hall f hf).1, (hall f hf).2.1⟩) (rqF_ne _ _) (rqF_words (titN_in ti) rs)
   rw [hCV2] at h
   exact h.mono fun e w2 ⟨es2, C2, h1, h2, h3, h4, h5⟩ => ⟨_, h1, (), ⟨_, rfl, by unfold rewF; rw [← h2]; exact rew_rd hw1 (show (w5, notOwn (FO x0 (takeAll (feedsF qs)) ++ ((p12, Obj.cells #[Value.int .u8 97, .int .u8 109, rowV C es.length] 51) :: MO8 p19 M (takeAll (feedsF qs)).length))) ∈ _ from (by first | exact .head _ | exact .tail _ (.head _) | exact .tail _ (.tail _ (.head _)) | exact .tail _ (.tail _ (.tail _ (.head _))))) h3 h4 h5⟩, hw1.later (h5.base (by simp))⟩) ?_
 rintro v42 _ wC wD hwC ⟨v8, rfl, hr42⟩ hwD
 refine Ze ?_
 refine k_end (List.singleton_sublist.2 (by simp only [List.mem_append, List.mem_cons, true_or, or_true])) (by intro s hs; first | exact hs | exact List.mem_cons_of_mem _ hs | exact List.mem_cons_of_mem _ (List.mem_cons_of_mem _ hs)) ?_
 refine k_gr ?_ k_nil
 refine x_callbg rfl rfl rfl rfl rfl Tryz.func27 Zk rfl (fun w1 hw1 => r_SameRv w1 (hr39.keep (fun k hk hlt => ⟨trivial, hw1.ro_at (wB, _) (by first | exact .head _ | exact .tail _ (.head _) | exact .tail _ (.tail _ (.head _)) | exact .tail _ (.tail _ (.tail _ (.head _)))) k hk hlt⟩)) (hr42.keep (fun k hk hlt => ⟨trivial, hw1.ro_at (wD, _) (by first | exact .head _ | exact .tail _ (.head _) | exact .tail _ (.tail _ (.head _)) | exact .tail _ (.tail _ (.tail _ (.head _)))) k hk hlt⟩)) 97 109) fun b43 hb43 => ?_
 obtain rfl : b43 = true := hb43.trans (decide_eq_true rfl)
 refine Ze ?_
 refine k_end (List.singleton_sublist.2 (by simp only [List.mem_append, List.mem_cons, true_or, or_true])) (by intro s hs; first | exact hs | exact List.mem_cons_of_mem _ hs | exact List.mem_cons_of_mem _ (List.mem_cons_of_mem _ hs)) ?_
 refine k_bool rfl rfl (v_and rfl rfl) fun b44 hb44 => ?_
 obtain rfl : b44 = true := hb44
 refine k_val rfl rfl (v_move rfl) ?_
 refine k_valg (v := Value.agg #[.int .u8 97, .int .u8 109, rowV C es.length]) rfl rfl rfl rfl (v_load_blk u51 rfl rfl (.head _) (by exact sz51)) ?_
 refine k_valg rfl rfl rfl rfl (v_move rfl) ?_
 refine k_valg rfl rfl rfl rfl (v_move rfl) ?_
 refine k_gr ?_ k_nil
 refine x_owng (τ := List FE × RowS) (fun z => Value.agg #[.int .u8 97, .int .u8 109, rowV z.2 z.1.length]) (fun z => RecW (rqF (titN ti) rs) z.1 z.2) (fun z => (rowO 62 z.2 ++ EOs 67 z.1) ++ (FO x9 (takeAll (feedsF qs)) ++ ((p12, Obj.cells #[Value.int .u8 97, .int .u8 109, rowV C es.length] 51) :: MO8 p19 M (takeAll (feedsF qs)).length))) rfl rfl rfl rfl rfl Tryz.func26 Zk rfl (fun w1 hw1 => (r_Record ti w1 hti (hg.keep (Kept.later (hw1.base (w0 := w) (by first | exact .head _ | exact .tail _ (.head _) | exact .tail _ (.tail _ (.head _)) | exact .tail _ (.tail _ (.tail _ (.head _)))))))).mono fun e w2 ⟨es, C, h1, h2, h3⟩ => ⟨(es, C), h1, h3.base (by simp), h2, Mem.join2 hw1 h3⟩) ?_
 rintro ⟨es3, C3⟩ hW3
 refine Ze ?_
 refine k_end (List.singleton_sublist.2 (by simp only [List.mem_append, List.mem_cons, true_or, or_true])) (by intro s hs; first | exact hs | exact List.mem_cons_of_mem _ hs | exact List.mem_cons_of_mem _ (List.mem_cons_of_mem _ hs)) ?_
 refine k_gr ?_ k_nil
 refine x_callbg rfl rfl rfl rfl rfl Tryz.func27 Zk rfl (fun w1 hw1 => r_SameRv w1 (hg5.keep (fun k hk hlt => ⟨trivial, hw1.ro_at (w5, _) (by first | exact .head _ | exact .tail _ (.head _) | exact .tail _ (.tail _ (.head _)) | exact .tail _ (.tail _ (.tail _ (.head _)))) k hk hlt⟩)) (rec_rd hW3 hok hw1 (show (w, fun _ => True) ∈ _ from (by first | exact .head _ | exact .tail _ (.head _) | exact .tail _ (.tail _ (.head _)) | exact .tail _ (.tail _ (.tail _ (.head _))))) (fun q hq => List.mem_append_left _ hq)) 97 109) fun b50 hb50 => ?_
 obtain rfl : b50 = true := hb50.trans (decide_eq_true rfl)
 refine Ze ?_
 refine k_end (List.singleton_sublist.2 (by simp only [List.mem_append, List.mem_cons, true_or, or_true])) (by intro s hs; first | exact hs | exact List.mem_cons_of_mem _ hs | exact List.mem_cons_of_mem _ (List.mem_cons_of_mem _ hs)) ?_
 refine k_bool rfl rfl (v_and rfl rfl) fun b51 hb51 => ?_
 obtain rfl : b51 = true := hb51
 refine k_val rfl rfl (v_assign rfl) ?_
 refine k_done ?_
 refine Ze (Zt (w_ret ?_))
 exact ret1 rfl rfl (fun w' hm => ⟨rfl, hm.base (w0 := w) (by first | exact .head _ | exact .tail _ (.head _) | exact .tail _ (.tail _ (.head _)) | exact .tail _ (.tail _ (.tail _ (.head _))))⟩)
end Go.Proofs.YtnflcekodobdlaaGreatDoor

namespace Go.Proofs.YtnflcekodobdlaaGreatDoor
open Go.RowKit Go.PK
def laidL : List (String × DataW Unit) := [("math/bits.deBruijn32tab", Rows.laid_math_bits_deBruijn32tab), ("math/bits.deBruijn64tab", Rows.laid_math_bits_deBruijn64tab), ("internal/strconv.uint64pow10", Rows.laid_internal_strconv_uint64pow10), ("strconv.ErrRange", Rows.laid_strconv_ErrRange), ("strconv.ErrSyntax", Rows.laid_strconv_ErrSyntax)]
theorem noHandle {W : World} (h : laidMetH Tryz.prog laidL W) : laidMet Tryz.prog laidL W := by
 have h1 := (laidMetH_iff.1 h).1
 rwa [show (laidL.filter fun x => x.2.handleName?.isNone) = laidL from by kernel_rfl] at h1
theorem laid_tab {W : World} (h : laidMet Tryz.prog laidL W) : Lib.TabIs Tryz.prog W "internal/strconv.uint64pow10" .u64 Lib.pow10Tab := by
 have h1 := h.filter fun x => x.1 == "internal/strconv.uint64pow10"
 have e : (laidL.filter fun x => x.1 == "internal/strconv.uint64pow10") = [("internal/strconv.uint64pow10", Lib.tabData .u64 Lib.pow10Tab)] := by kernel_rfl
 rw [e] at h1
 exact Lib.tabIs_of_head (g := 2) (t := 204) (e := 155) (n := 20) Zk Zk Zk Zk Zk Zk h1
theorem star : "*" ++ "errors.errorString" = "*errors.errorString" := by decide
theorem row104 (u : TypeId) (h : Tryz.prog.typeName? 3 u = some "*errors.errorString") : u = 212 :=
 typeName_ptr_named (nm := "errors.errorString") (by rw [star]; kernel_rfl) Zk (by decide) u (by rw [star]; exact h)
theorem laid_syn {W : World} (h : laidMet Tryz.prog laidL W) : ∃ tp p, W.var? Tryz.prog "strconv.ErrSyntax" = some #[.iface tp p] := by
 have h1 := h.filter fun x => x.1 == "strconv.ErrSyntax"
 have e : (laidL.filter fun x => x.1 == "strconv.ErrSyntax") = [("strconv.ErrSyntax", .iface "*errors.errorString" (.ptr (.agg [.lit (.string [105, 110, 118, 97, 108, 105, 100, 32, 115, 121, 110, 116, 97, 120])])))] := by kernel_rfl
 rw [e] at h1
 obtain ⟨a0, s0, hv0, _⟩ := laid_sentinel (g := 0) (ti := 135) (tp := 212) (te := 214) (ts := 9) h1 Zk Zk u135 row104 u212 u214 rfl rfl u9 Zk Zk
 exact ⟨_, _, hv0⟩
theorem laid_rng {W : World} (h : laidMet Tryz.prog laidL W) : ∃ tp p, W.var? Tryz.prog "strconv.ErrRange" = some #[.iface tp p] := by
 have h1 := h.filter fun x => x.1 == "strconv.ErrRange"
 have e : (laidL.filter fun x => x.1 == "strconv.ErrRange") = [("strconv.ErrRange", .iface "*errors.errorString" (.ptr (.agg [.lit (.string [118, 97, 108, 117, 101, 32, 111, 117, 116, 32, 111, 102, 32, 114, 97, 110, 103, 101])])))] := by kernel_rfl
 rw [e] at h1
 obtain ⟨a0, s0, hv0, _⟩ := laid_sentinel (g := 1) (ti := 135) (tp := 212) (te := 214) (ts := 9) h1 Zk Zk u135 row104 u212 u214 rfl rfl u9 Zk Zk
 exact ⟨_, _, hv0⟩
theorem ld_of {W : World} (h : laidMetH Tryz.prog laidL W) (hS : W.ShapedOpen Tryz.prog) : LD W := ⟨laid_tab (noHandle h), Tryz.laysM145.s1_3 W hS, laid_syn (noHandle h), laid_rng (noHandle h)⟩
theorem laid_met (os : Os) (args : Array Value) : laidMet Tryz.prog laidL ((World.laidAll Tryz.prog os laidL).forCall (fun _ _ => 0) ⟨#[], args, []⟩).memory :=
 laidMet_laidAll args Zk Zk
theorem bulk_one {H : Type} (d : DataW H) : 1 ≤ Rows.uptoBulk d := by
 cases d with
 | lit l => cases l <;> simp [Rows.uptoBulk]
 | nil => simp [Rows.uptoBulk]
 | ptr d => simp [Rows.uptoBulk]
 | slice elems spare => simp [Rows.uptoBulk]
 | agg parts => simp [Rows.uptoBulk]
 | iface t d => simp [Rows.uptoBulk]
 | map entries => simp [Rows.uptoBulk]
 | held h => simp [Rows.uptoBulk]
def meas (H : Type) : Meas H := ⟨Rows.uptoBulk, Rows.uptoBulkAll, fun _ => by simp [Rows.uptoBulk], fun _ _ => by simp [Rows.uptoBulk], fun _ => by simp [Rows.uptoBulk], fun _ _ => by simp [Rows.uptoBulkAll], bulk_one⟩
end Go.Proofs.YtnflcekodobdlaaGreatDoor
