/- Of the proofs of YtifekogdhjabaaaGreatDoor: Xc Xd Xe Xf Xg Xh Xi Xj Ya Yb Yc Yd Ye Yf Yg Clone Yh Yi, put together. -/
import Derived.Test.YtifekogdhjabaaaGreatDoorB6
import Derived.Test.YtifekogdhjabaaaGreatDoorB2
import Derived.Shelf.Strconv.ErrVarAll
import Derived.Lib.AtoiAllCases
import Derived.Shelf.SlGeneric
import Derived.Shelf.SlMaps.Clone
import Derived.Ground.SlmcProg
import Derived.Test.YtifekogdhjabaaaGreatDoorProg
import Derived.Test.YtifekogdhjabaaaGreatDoorB1
import Derived.Test.YtifekogdhjabaaaGreatDoorB3
import Derived.Test.YtifekogdhjabaaaGreatDoorB4
import Derived.Test.YtifekogdhjabaaaGreatDoorB5
set_option linter.unusedVariables false
set_option linter.unusedSimpArgs false
set_option maxRecDepth 100000

namespace Go.Proofs.YtifekogdhjabaaaGreatDoor
open Go.RowKit Go.PK
set_option maxHeartbeats 4000000 in
theorem c_rOrder (o : Ord) (w : World) (hok : o.ok) :
  Calls Tryz.prog 84 #[.agg o.cells.toArray] w fun e w' => ∃ v, e = .returned v ∧ Later w w' ∧ sliceRd tySeg (fun b => w.heap.size ≤ b) w' v (orderR o) ∧ ((orderR o).length = 0 → v = .slice none 0 0) := by
 have hoi : in64 o.id ∧ in64 o.fund ∧ in64 o.src ∧ in64 o.num ∧ in64 o.copies ∧ in64 o.price := hok
 obtain ⟨i1, i2, i3, i4, i5, i6⟩ := hoi
 refine enter (vs := [.agg o.cells.toArray]) Tryz.func84 rfl Tryz.ntmps84 rfl ?_
 refine Zs (Zr ?_)
 refine x_box rfl rfl rfl rfl ?_
 intro p1
 refine Xa ?_
 refine Ze (Zt (Zs (Zr ?_)))
 refine Xv rfl (v_load_blk (e := 25) (fz := (0, 0)) (cs := o.cells.toArray) u25 rfl rfl (.head _) sz25) ?_
 refine x_callb rfl rfl rfl Tryz.func128 Zk rfl (fun w1 hw1 => c_rWritable o w1) fun b5 hb5 => ?_
 refine Xa ?_
 refine Ze (Zt (Zs (Zs (Zr ?_))))
 refine Xm ?_
 refine Xb rfl (v_not rfl) fun b7 hb7 => ?_
 refine Ze (Zt ?_)
 refine w_cond rfl (fun hc7 => ?_) (fun hc7 => ?_)
 ·have hw : writB o = false := by rw [hb7, hb5] at hc7; simpa using hc7
  refine Zs (Zr ?_)
  refine Xa ?_
  refine Ze (Zt (w_ret (t_ret ?_)))
  refine ret1 rfl rfl (fun w' hm => ?_)
  rw [show orderR o = [] from by unfold orderR; rw [hw]; rfl]
  exact ⟨_, rfl, hm.base (by simp), sliceRd_nil, fun _ => rfl⟩
 have hw : writB o = true := by rw [hb7, hb5] at hc7; simpa using hc7
 have hwr := (writB_iff o).1 hw
 obtain ⟨n1, n2, n3, n4, n5, n6⟩ := wrO_nn hwr
 refine w_skip (Zt (Zs ?_))
 refine rg_tree 25 (.flt 1 (.flt 2 (.flt 6 (.flt 7 (.flt 9 (.flt 10 (.flt 13 (.flt 14 (.flt 17 (.flt 18 (.gr 0 (.flt 3 (.gr 4 (.gr 5 (.gr 8 (.flt 11 (.gr 12 (.flt 15 (.gr 16 (.flt 19 (.gr 20 (.gr 21 (.gr 22 (.gr 23 (.flt 24 .done) .nil) .nil) .nil) (.gr 21 (.gr 20 (.gr 22 (.gr 23 (.flt 24 .done) .nil) .nil) .nil) .nil))) (.gr 21 (.gr 16 (.flt 19 (.gr 20 (.gr 22 (.gr 23 (.flt 24 .done) .nil) .nil) .nil)) .nil) .nil))) (.gr 21 (.gr 12 (.flt 15 (.gr 16 (.flt 19 (.gr 20 (.gr 22 (.gr 23 (.flt 24 .done) .nil) .nil) .nil)) .nil)) .nil) .nil))) (.gr 21 (.gr 8 (.flt 11 (.gr 12 (.flt 15 (.gr 16 (.flt 19 (.gr 20 (.gr 22 (.gr 23 (.flt 24 .done) .nil) .nil) .nil)) .nil)) .nil)) .nil) .nil)) (.gr 21 (.gr 5 (.gr 8 (.flt 11 (.gr 12 (.flt 15 (.gr 16 (.flt 19 (.gr 20 (.gr 22 (.gr 23 (.flt 24 .done) .nil) .nil) .nil)) .nil)) .nil)) .nil) .nil) .nil)) (.gr 21 (.gr 4 (.gr 5 (.gr 8 (.flt 11 (.gr 12 (.flt 15 (.gr 16 (.flt 19 (.gr 20 (.gr 22 (.gr 23 (.flt 24 .done) .nil) .nil) .nil)) .nil)) .nil)) .nil) .nil) .nil) .nil))) (.gr 21 (.gr 0 (.flt 3 (.gr 4 (.gr 5 (.gr 8 (.flt 11 (.gr 12 (.flt 15 (.gr 16 (.flt 19 (.gr 20 (.gr 22 (.gr 23 (.flt 24 .done) .nil) .nil) .nil)) .nil)) .nil)) .nil) .nil) .nil)) .nil) .nil)))))))))))) Zk Zk ?_
 refine t_flt (Q := fun _ _ _ => False) ?_
 refine Xv rfl (v_fieldAddr (off' := 0) u25 rfl sz3 (by decide) rfl rfl) ?_
 refine Ze ?_
 refine t_flt (Q := fun _ _ _ => False) ?_
 refine Xv rfl (v_load u3 rfl rfl (at_ownL (vs := o.cells) Zh rfl)) ?_
 refine Ze ?_
 refine t_flt (Q := fun _ _ _ => False) ?_
 refine Xv rfl (v_fieldAddr (off' := 2) u25 rfl sz23 (by decide) rfl rfl) ?_
 refine Ze ?_
 refine t_flt (Q := fun _ _ _ => False) ?_
 refine Xv rfl (v_loadN (vs := [Value.int .i64 o.src, .int .i64 o.num]) u23 rfl sz23 rfl (fun j hj => at_ownL (vs := o.cells) Zh (by match j, hj with | 0, _ => rfl | 1, _ => rfl))) ?_
 refine Ze ?_
 refine t_flt (Q := fun _ _ _ => False) ?_
 refine Xv rfl (v_fieldAddr (off' := 4) u25 rfl sz3 (by decide) rfl rfl) ?_
 refine Ze ?_
 refine t_flt (Q := fun _ _ _ => False) ?_
 refine Xv rfl (v_load u3 rfl rfl (at_ownL (vs := o.cells) Zh rfl)) ?_
 refine Ze ?_
 refine t_flt (Q := fun _ _ _ => False) ?_
 refine Xv rfl (v_fieldAddr (off' := 5) u25 rfl sz3 (by decide) rfl rfl) ?_
 refine Ze ?_
 refine t_flt (Q := fun _ _ _ => False) ?_
 refine Xv rfl (v_load u3 rfl rfl (at_ownL (vs := o.cells) Zh rfl)) ?_
 refine Ze ?_
 refine t_flt (Q := fun _ _ _ => False) ?_
 refine Xv rfl (v_fieldAddr (off' := 1) u25 rfl sz3 (by decide) rfl rfl) ?_
 refine Ze ?_
 refine t_flt (Q := fun _ _ _ => False) ?_
 refine Xv rfl (v_load u3 rfl rfl (at_ownL (vs := o.cells) Zh rfl)) ?_
 refine Ze ?_
 refine t_gr (Q := fun _ _ _ => False) ?_ ?_
 ·refine x_call (R := fun v wa wb => ∃ A c, v = .agg #[.string (⟨#[85, 78, 72]⟩), .slice A 2 c] ∧ sliceRd (tySlice tyStr) (fun b => wa.heap.size ≤ b) wb (.slice A 2 c) [[⟨#[49]⟩], [⟨#[79, 82, 68, 69, 82, 83]⟩, ⟨#[68]⟩, ⟨#[57, 54, 65]⟩, ⟨#[85, 78]⟩]]) rfl rfl rfl Tryz.func129 Zk rfl (fun w1 hw1 => (c_header ⟨#[79, 82, 68, 69, 82, 83]⟩ w1 (okS_small (by decide))).mono fun e w2 ⟨u, h1, h2, h3⟩ => seg_out h1 h2 h3) ?_
  intro v8 wa8 wb8 hm8 hl8 hR8
  obtain ⟨A8, c8, rfl, hs8⟩ := hR8
  refine Ze ?_
  refine t_flt (Q := fun _ _ _ => False) ?_
  refine x_callv rfl rfl rfl Tryz.func73 Zk rfl (fun w1 hw1 => c_Dec o.id w1 n1 i1) ?_
  refine Ze ?_
  refine t_gr (Q := fun _ _ _ => False) ?_ ?_
  ·refine x_buildSliceL (cs := [Value.string (⟨#[50, 50, 48]⟩), Value.string (itoaS o.id)]) rfl rfl rfl u78 sz9 zr9 rfl rfl rfl ?_
   intro p12
   refine Ze ?_
   refine t_gr (Q := fun _ _ _ => False) ?_ ?_
   ·refine x_call (R := fun v wa wb => ∃ A c, v = .agg #[.string (⟨#[66, 71, 77]⟩), .slice A 2 c] ∧ sliceRd (tySlice tyStr) (fun b => wa.heap.size ≤ b) wb (.slice A 2 c) [[⟨#[50, 50, 48]⟩], [itoaS o.id]]) rfl rfl rfl Tryz.func130 Zk rfl (fun w1 hw1 => (c_one (es := [⟨#[50, 50, 48]⟩, itoaS o.id]) (D := fun _ => True) ⟨#[66, 71, 77]⟩ w1 (lits_own (T := tyStr) (D := fun _ => True) (e := 9) (b := p12) [[Value.string (⟨#[50, 50, 48]⟩)], [Value.string (itoaS o.id)]] (xs := [⟨#[50, 50, 48]⟩, itoaS o.id]) hw1 Zh rfl (by simp) trivial ⟨⟨rfl, (okS_small (by decide))⟩, ⟨rfl, itoa_ok i1⟩, trivial⟩) (by simp)).mono fun e w2 ⟨u, h1, h2, h3⟩ => seg_out h1 h2 h3) ?_
    intro v13 wa13 wb13 hm13 hl13 hR13
    obtain ⟨A13, c13, rfl, hs13⟩ := hR13
    refine Ze ?_
    refine t_gr (Q := fun _ _ _ => False) ?_ ?_
    ·refine x_call (R := fun v wa wb => ∃ A c, v = .agg #[.string (⟨#[76, 73, 78]⟩), .slice A 3 c] ∧ sliceRd (tySlice tyStr) (fun b => wa.heap.size ≤ b) wb (.slice A 3 c) [[itoaS 1], [⟨#[]⟩], [recT o.src o.num, ⟨#[83, 82, 86]⟩]]) rfl rfl rfl Tryz.func131 Zk rfl (fun w1 hw1 => (c_line 1 (o.src, o.num) w1 ⟨by decide, by unfold in64; decide⟩ ⟨n3, i3⟩ ⟨n4, i4⟩).mono fun e w2 ⟨u, h1, h2, h3⟩ => seg_out h1 h2 h3) ?_
     intro v16 wa16 wb16 hm16 hl16 hR16
     obtain ⟨A16, c16, rfl, hs16⟩ := hR16
     refine Ze ?_
     refine t_flt (Q := fun _ _ _ => False) ?_
     refine x_callv rfl rfl rfl Tryz.func73 Zk rfl (fun w1 hw1 => c_Dec o.copies w1 n5 i5) ?_
     refine Ze ?_
     refine t_gr (Q := fun _ _ _ => False) ?_ ?_
     ·refine x_call (R := fun v wa wb => ∃ A c, v = .agg #[.string (⟨#[81, 84, 89]⟩), .slice A 1 c] ∧ sliceRd (tySlice tyStr) (fun b => wa.heap.size ≤ b) wb (.slice A 1 c) [[⟨#[50, 49]⟩, itoaS o.copies]]) rfl rfl rfl Tryz.func132 Zk rfl (fun w1 hw1 => (c_pair ⟨#[81, 84, 89]⟩ ⟨#[50, 49]⟩ (itoaS o.copies) w1 (okS_small (by decide)) (itoa_ok i5)).mono fun e w2 ⟨u, h1, h2, h3⟩ => seg_out h1 h2 h3) ?_
      intro v20 wa20 wb20 hm20 hl20 hR20
      obtain ⟨A20, c20, rfl, hs20⟩ := hR20
      refine Ze ?_
      refine t_flt (Q := fun _ _ _ => False) ?_
      refine x_callv rfl rfl rfl Tryz.func73 Zk rfl (fun w1 hw1 => c_Dec o.price w1 n6 i6) ?_
      refine Ze ?_
      refine t_gr (Q := fun _ _ _ => False) ?_ ?_
      ·refine x_call (R := fun v wa wb => ∃ A c, v = .agg #[.string (⟨#[80, 82, 73]⟩), .slice A 1 c] ∧ sliceRd (tySlice tyStr) (fun b => wa.heap.size ≤ b) wb (.slice A 1 c) [[⟨#[65, 65, 65]⟩, itoaS o.price]]) rfl rfl rfl Tryz.func132 Zk rfl (fun w1 hw1 => (c_pair ⟨#[80, 82, 73]⟩ ⟨#[65, 65, 65]⟩ (itoaS o.price) w1 (okS_small (by decide)) (itoa_ok i6)).mono fun e w2 ⟨u, h1, h2, h3⟩ => seg_out h1 h2 h3) ?_
       intro v24 wa24 wb24 hm24 hl24 hR24
       obtain ⟨A24, c24, rfl, hs24⟩ := hR24
       refine Ze ?_
       refine t_flt (Q := fun _ _ _ => False) ?_
       refine x_callv rfl rfl rfl Tryz.func73 Zk rfl (fun w1 hw1 => c_Dec o.fund w1 n2 i2) ?_
       refine Ze ?_
       refine t_gr (Q := fun _ _ _ => False) ?_ ?_
       ·refine x_call (R := fun v wa wb => ∃ A c, v = .agg #[.string (⟨#[82, 70, 70]⟩), .slice A 1 c] ∧ sliceRd (tySlice tyStr) (fun b => wa.heap.size ≤ b) wb (.slice A 1 c) [[⟨#[66, 70, 78]⟩, itoaS o.fund]]) rfl rfl rfl Tryz.func132 Zk rfl (fun w1 hw1 => (c_pair ⟨#[82, 70, 70]⟩ ⟨#[66, 70, 78]⟩ (itoaS o.fund) w1 (okS_small (by decide)) (itoa_ok i2)).mono fun e w2 ⟨u, h1, h2, h3⟩ => seg_out h1 h2 h3) ?_
        intro v28 wa28 wb28 hm28 hl28 hR28
        obtain ⟨A28, c28, rfl, hs28⟩ := hR28
        refine Ze ?_
        refine t_gr (Q := fun _ _ _ => False) ?_ t_nil
        refine x_buildSliceL (cs := [Value.string (⟨#[55]⟩), Value.string (⟨#[49]⟩)]) rfl rfl rfl u78 sz9 zr9 rfl rfl rfl ?_
        intro p29
        refine Ze ?_
        refine t_gr (Q := fun _ _ _ => False) ?_ t_nil
        refine x_call (R := fun v wa wb => ∃ A c, v = .agg #[.string (⟨#[85, 78, 84]⟩), .slice A 2 c] ∧ sliceRd (tySlice tyStr) (fun b => wa.heap.size ≤ b) wb (.slice A 2 c) [[⟨#[55]⟩], [⟨#[49]⟩]]) rfl rfl rfl Tryz.func130 Zk rfl (fun w1 hw1 => (c_one (es := [⟨#[55]⟩, ⟨#[49]⟩]) (D := fun _ => True) ⟨#[85, 78, 84]⟩ w1 (lits_own (T := tyStr) (D := fun _ => True) (e := 9) (b := p29) [[Value.string (⟨#[55]⟩)], [Value.string (⟨#[49]⟩)]] (xs := [⟨#[55]⟩, ⟨#[49]⟩]) hw1 Zh rfl (by simp) trivial ⟨⟨rfl, (okS_small (by decide))⟩, ⟨rfl, (okS_small (by decide))⟩, trivial⟩) (by simp)).mono fun e w2 ⟨u, h1, h2, h3⟩ => seg_out h1 h2 h3) fun v30 wa30 wb30 hm30 hl30 hR30 => ?_
        obtain ⟨A30, c30, rfl, hs30⟩ := hR30
        refine Ze ?_
        refine t_gr (Q := fun _ _ _ => False) ?_ t_nil
        refine x_buildSliceL (cs := ([[Value.string (⟨#[85, 78, 72]⟩), .slice A8 2 c8], [Value.string (⟨#[66, 71, 77]⟩), .slice A13 2 c13], [Value.string (⟨#[76, 73, 78]⟩), .slice A16 3 c16], [Value.string (⟨#[81, 84, 89]⟩), .slice A20 1 c20], [Value.string (⟨#[80, 82, 73]⟩), .slice A24 1 c24], [Value.string (⟨#[82, 70, 70]⟩), .slice A28 1 c28], [Value.string (⟨#[85, 78, 84]⟩), .slice A30 2 c30]] : List (List Value)).flatten) rfl rfl rfl u56 sz134 zr134 rfl rfl rfl ?_
        intro p31
        refine Ze ?_
        refine t_flt (Q := fun _ _ _ => False) ?_
        refine Xa ?_
        refine Ze ?_
        refine t_done ?_
        refine Ze (Zt (w_ret ?_))
        refine ret1 rfl rfl (fun w' hm => ?_)
        rw [show orderR o = orderX o from by unfold orderR; rw [if_pos hw, orderP_X (wrO_nn hwr)]]
        exact ⟨_, rfl, hm.base (by simp), RdAll.rd (e := 134) (css := [[Value.string (⟨#[85, 78, 72]⟩), .slice A8 2 c8], [Value.string (⟨#[66, 71, 77]⟩), .slice A13 2 c13], [Value.string (⟨#[76, 73, 78]⟩), .slice A16 3 c16], [Value.string (⟨#[81, 84, 89]⟩), .slice A20 1 c20], [Value.string (⟨#[80, 82, 73]⟩), .slice A24 1 c24], [Value.string (⟨#[82, 70, 70]⟩), .slice A28 1 c28], [Value.string (⟨#[85, 78, 84]⟩), .slice A30 2 c30]]) (xs := orderX o) (.cons (tySeg_mk (x := ⟨⟨#[85, 78, 72]⟩, [[⟨#[49]⟩], [⟨#[79, 82, 68, 69, 82, 83]⟩, ⟨#[68]⟩, ⟨#[57, 54, 65]⟩, ⟨#[85, 78]⟩]]⟩) rfl (show (3 : Nat) ≤ 9223372036854775807 by decide) (hs8.keep (Kept.made hm Zh hm8 (hm8.base (by simp)).size))) (.cons (tySeg_mk (x := ⟨⟨#[66, 71, 77]⟩, [[⟨#[50, 50, 48]⟩], [itoaS o.id]]⟩) rfl (show (3 : Nat) ≤ 9223372036854775807 by decide) (hs13.keep (Kept.made hm Zh hm13 (hm13.base (by simp)).size))) (.cons (tySeg_mk (x := ⟨⟨#[76, 73, 78]⟩, [[itoaS 1], [⟨#[]⟩], [recT o.src o.num, ⟨#[83, 82, 86]⟩]]⟩) rfl (show (3 : Nat) ≤ 9223372036854775807 by decide) (hs16.keep (Kept.made hm Zh hm16 (hm16.base (by simp)).size))) (.cons (tySeg_mk (x := ⟨⟨#[81, 84, 89]⟩, [[⟨#[50, 49]⟩, itoaS o.copies]]⟩) rfl (show (3 : Nat) ≤ 9223372036854775807 by decide) (hs20.keep (Kept.made hm Zh hm20 (hm20.base (by simp)).size))) (.cons (tySeg_mk (x := ⟨⟨#[80, 82, 73]⟩, [[⟨#[65, 65, 65]⟩, itoaS o.price]]⟩) rfl (show (3 : Nat) ≤ 9223372036854775807 by decide) (hs24.keep (Kept.made hm Zh hm24 (hm24.base (by simp)).size))) (.cons (tySeg_mk (x := ⟨⟨#[82, 70, 70]⟩, [[⟨#[66, 70, 78]⟩, itoaS o.fund]]⟩) rfl (show (3 : Nat) ≤ 9223372036854775807 by decide) (hs28.keep (Kept.made hm Zh hm28 (hm28.base (by simp)).size))) (.cons (tySeg_mk (x := ⟨⟨#[85, 78, 84]⟩, [[⟨#[55]⟩], [⟨#[49]⟩]]⟩) rfl (show (3 : Nat) ≤ 9223372036854775807 by decide) (hs30.keep (Kept.made hm Zh hm30 (hm30.base (by simp)).size))) (.nil)))))))) hm (.head _) Zh rfl (show (7 : Nat) ≤ maxLen by decide), fun h => absurd (show (7 : Nat) = 0 from h) (by decide)⟩
       refine t_gr (Q := fun _ _ _ => False) ?_ t_nil
       refine x_buildSliceL (cs := [Value.string (⟨#[55]⟩), Value.string (⟨#[49]⟩)]) rfl rfl rfl u78 sz9 zr9 rfl rfl rfl ?_
       intro p29
       refine Ze ?_
       refine t_gr (Q := fun _ _ _ => False) ?_ t_nil
       refine x_call (R := fun v wa wb => ∃ A c, v = .agg #[.string (⟨#[82, 70, 70]⟩), .slice A 1 c] ∧ sliceRd (tySlice tyStr) (fun b => wa.heap.size ≤ b) wb (.slice A 1 c) [[⟨#[66, 70, 78]⟩, itoaS o.fund]]) rfl rfl rfl Tryz.func132 Zk rfl (fun w1 hw1 => (c_pair ⟨#[82, 70, 70]⟩ ⟨#[66, 70, 78]⟩ (itoaS o.fund) w1 (okS_small (by decide)) (itoa_ok i2)).mono fun e w2 ⟨u, h1, h2, h3⟩ => seg_out h1 h2 h3) fun v28 wa28 wb28 hm28 hl28 hR28 => ?_
       obtain ⟨A28, c28, rfl, hs28⟩ := hR28
       refine Ze ?_
       refine t_gr (Q := fun _ _ _ => False) ?_ t_nil
       refine x_call (R := fun v wa wb => ∃ A c, v = .agg #[.string (⟨#[85, 78, 84]⟩), .slice A 2 c] ∧ sliceRd (tySlice tyStr) (fun b => wa.heap.size ≤ b) wb (.slice A 2 c) [[⟨#[55]⟩], [⟨#[49]⟩]]) rfl rfl rfl Tryz.func130 Zk rfl (fun w1 hw1 => (c_one (es := [⟨#[55]⟩, ⟨#[49]⟩]) (D := fun _ => True) ⟨#[85, 78, 84]⟩ w1 (lits_own (T := tyStr) (D := fun _ => True) (e := 9) (b := p29) [[Value.string (⟨#[55]⟩)], [Value.string (⟨#[49]⟩)]] (xs := [⟨#[55]⟩, ⟨#[49]⟩]) hw1 Zh rfl (by simp) trivial ⟨⟨rfl, (okS_small (by decide))⟩, ⟨rfl, (okS_small (by decide))⟩, trivial⟩) (by simp)).mono fun e w2 ⟨u, h1, h2, h3⟩ => seg_out h1 h2 h3) fun v30 wa30 wb30 hm30 hl30 hR30 => ?_
       obtain ⟨A30, c30, rfl, hs30⟩ := hR30
       refine Ze ?_
       refine t_gr (Q := fun _ _ _ => False) ?_ t_nil
       refine x_buildSliceL (cs := ([[Value.string (⟨#[85, 78, 72]⟩), .slice A8 2 c8], [Value.string (⟨#[66, 71, 77]⟩), .slice A13 2 c13], [Value.string (⟨#[76, 73, 78]⟩), .slice A16 3 c16], [Value.string (⟨#[81, 84, 89]⟩), .slice A20 1 c20], [Value.string (⟨#[80, 82, 73]⟩), .slice A24 1 c24], [Value.string (⟨#[82, 70, 70]⟩), .slice A28 1 c28], [Value.string (⟨#[85, 78, 84]⟩), .slice A30 2 c30]] : List (List Value)).flatten) rfl rfl rfl u56 sz134 zr134 rfl rfl rfl ?_
       intro p31
       refine Ze ?_
       refine t_flt (Q := fun _ _ _ => False) ?_
       refine Xa ?_
       refine Ze ?_
       refine t_done ?_
       refine Ze (Zt (w_ret ?_))
       refine ret1 rfl rfl (fun w' hm => ?_)
       rw [show orderR o = orderX o from by unfold orderR; rw [if_pos hw, orderP_X (wrO_nn hwr)]]
       exact ⟨_, rfl, hm.base (by simp), RdAll.rd (e := 134) (css := [[Value.string (⟨#[85, 78, 72]⟩), .slice A8 2 c8], [Value.string (⟨#[66, 71, 77]⟩), .slice A13 2 c13], [Value.string (⟨#[76, 73, 78]⟩), .slice A16 3 c16], [Value.string (⟨#[81, 84, 89]⟩), .slice A20 1 c20], [Value.string (⟨#[80, 82, 73]⟩), .slice A24 1 c24], [Value.string (⟨#[82, 70, 70]⟩), .slice A28 1 c28], [Value.string (⟨#[85, 78, 84]⟩), .slice A30 2 c30]]) (xs := orderX o) (.cons (tySeg_mk (x := ⟨⟨#[85, 78, 72]⟩, [[⟨#[49]⟩], [⟨#[79, 82, 68, 69, 82, 83]⟩, ⟨#[68]⟩, ⟨#[57, 54, 65]⟩, ⟨#[85, 78]⟩]]⟩) rfl (show (3 : Nat) ≤ 9223372036854775807 by decide) (hs8.keep (Kept.made hm Zh hm8 (hm8.base (by simp)).size))) (.cons (tySeg_mk (x := ⟨⟨#[66, 71, 77]⟩, [[⟨#[50, 50, 48]⟩], [itoaS o.id]]⟩) rfl (show (3 : Nat) ≤ 9223372036854775807 by decide) (hs13.keep (Kept.made hm Zh hm13 (hm13.base (by simp)).size))) (.cons (tySeg_mk (x := ⟨⟨#[76, 73, 78]⟩, [[itoaS 1], [⟨#[]⟩], [recT o.src o.num, ⟨#[83, 82, 86]⟩]]⟩) rfl (show (3 : Nat) ≤ 9223372036854775807 by decide) (hs16.keep (Kept.made hm Zh hm16 (hm16.base (by simp)).size))) (.cons (tySeg_mk (x := ⟨⟨#[81, 84, 89]⟩, [[⟨#[50, 49]⟩, itoaS o.copies]]⟩) rfl (show (3 : Nat) ≤ 9223372036854775807 by decide) (hs20.keep (Kept.made hm Zh hm20 (hm20.base (by simp)).size))) (.cons (tySeg_mk (x := ⟨⟨#[80, 82, 73]⟩, [[⟨#[65, 65, 65]⟩, itoaS o.price]]⟩) rfl (show (3 : Nat) ≤ 9223372036854775807 by decide) (hs24.keep (Kept.made hm Zh hm24 (hm24.base (by simp)).size))) (.cons (tySeg_mk (x := ⟨⟨#[82, 70, 70]⟩, [[⟨#[66, 70, 78]⟩, itoaS o.fund]]⟩) rfl (show (3 : Nat) ≤ 9223372036854775807 by decide) (hs28.keep (Kept.made hm Zh hm28 (hm28.base (by simp)).size))) (.cons (tySeg_mk (x := ⟨⟨#[85, 78, 84]⟩, [[⟨#[55]⟩], [⟨#[49]⟩]]⟩) rfl (show (3 : Nat) ≤ 9223372036854775807 by decide) (hs30.keep (Kept.made hm Zh hm30 (hm30.base (by simp)).size))) (.nil)))))))) hm (.head _) Zh rfl (show (7 : Nat) ≤ maxLen by decide), fun h => absurd (show (7 : Nat) = 0 from h) (by decide)⟩
      refine t_gr (Q := fun _ _ _ => False) ?_ t_nil
      refine x_buildSliceL (cs := [Value.string (⟨#[55]⟩), Value.string (⟨#[49]⟩)]) rfl rfl rfl u78 sz9 zr9 rfl rfl rfl ?_
      intro p29
      refine Ze ?_
      refine t_gr (Q := fun _ _ _ => False) ?_ t_nil
      refine x_call (R := fun v wa wb => ∃ A c, v = .agg #[.string (⟨#[80, 82, 73]⟩), .slice A 1 c] ∧ sliceRd (tySlice tyStr) (fun b => wa.heap.size ≤ b) wb (.slice A 1 c) [[⟨#[65, 65, 65]⟩, itoaS o.price]]) rfl rfl rfl Tryz.func132 Zk rfl (fun w1 hw1 => (c_pair ⟨#[80, 82, 73]⟩ ⟨#[65, 65, 65]⟩ (itoaS o.price) w1 (okS_small (by decide)) (itoa_ok i6)).mono fun e w2 ⟨u, h1, h2, h3⟩ => seg_out h1 h2 h3) fun v24 wa24 wb24 hm24 hl24 hR24 => ?_
      obtain ⟨A24, c24, rfl, hs24⟩ := hR24
      refine Ze ?_
      refine t_flt (Q := fun _ _ _ => False) ?_
      refine x_callv rfl rfl rfl Tryz.func73 Zk rfl (fun w1 hw1 => c_Dec o.fund w1 n2 i2) ?_
      refine Ze ?_
      refine t_gr (Q := fun _ _ _ => False) ?_ t_nil
      refine x_call (R := fun v wa wb => ∃ A c, v = .agg #[.string (⟨#[82, 70, 70]⟩), .slice A 1 c] ∧ sliceRd (tySlice tyStr) (fun b => wa.heap.size ≤ b) wb (.slice A 1 c) [[⟨#[66, 70, 78]⟩, itoaS o.fund]]) rfl rfl rfl Tryz.func132 Zk rfl (fun w1 hw1 => (c_pair ⟨#[82, 70, 70]⟩ ⟨#[66, 70, 78]⟩ (itoaS o.fund) w1 (okS_small (by decide)) (itoa_ok i2)).mono fun e w2 ⟨u, h1, h2, h3⟩ => seg_out h1 h2 h3) fun v28 wa28 wb28 hm28 hl28 hR28 => ?_
      obtain ⟨A28, c28, rfl, hs28⟩ := hR28
      refine Ze ?_
      refine t_gr (Q := fun _ _ _ => False) ?_ t_nil
      refine x_call (R := fun v wa wb => ∃ A c, v = .agg #[.string (⟨#[85, 78, 84]⟩), .slice A 2 c] ∧ sliceRd (tySlice tyStr) (fun b => wa.heap.size ≤ b) wb (.slice A 2 c) [[⟨#[55]⟩], [⟨#[49]⟩]]) rfl rfl rfl Tryz.func130 Zk rfl (fun w1 hw1 => (c_one (es := [⟨#[55]⟩, ⟨#[49]⟩]) (D := fun _ => True) ⟨#[85, 78, 84]⟩ w1 (lits_own (T := tyStr) (D := fun _ => True) (e := 9) (b := p29) [[Value.string (⟨#[55]⟩)], [Value.string (⟨#[49]⟩)]] (xs := [⟨#[55]⟩, ⟨#[49]⟩]) hw1 Zh rfl (by simp) trivial ⟨⟨rfl, (okS_small (by decide))⟩, ⟨rfl, (okS_small (by decide))⟩, trivial⟩) (by simp)).mono fun e w2 ⟨u, h1, h2, h3⟩ => seg_out h1 h2 h3) fun v30 wa30 wb30 hm30 hl30 hR30 => ?_
      obtain ⟨A30, c30, rfl, hs30⟩ := hR30
      refine Ze ?_
      refine t_gr (Q := fun _ _ _ => False) ?_ t_nil
      refine x_buildSliceL (cs := ([[Value.string (⟨#[85, 78, 72]⟩), .slice A8 2 c8], [Value.string (⟨#[66, 71, 77]⟩), .slice A13 2 c13], [Value.string (⟨#[76, 73, 78]⟩), .slice A16 3 c16], [Value.string (⟨#[81, 84, 89]⟩), .slice A20 1 c20], [Value.string (⟨#[80, 82, 73]⟩), .slice A24 1 c24], [Value.string (⟨#[82, 70, 70]⟩), .slice A28 1 c28], [Value.string (⟨#[85, 78, 84]⟩), .slice A30 2 c30]] : List (List Value)).flatten) rfl rfl rfl u56 sz134 zr134 rfl rfl rfl ?_
      intro p31
      refine Ze ?_
      refine t_flt (Q := fun _ _ _ => False) ?_
      refine Xa ?_
      refine Ze ?_
      refine t_done ?_
      refine Ze (Zt (w_ret ?_))
      refine ret1 rfl rfl (fun w' hm => ?_)
      rw [show orderR o = orderX o from by unfold orderR; rw [if_pos hw, orderP_X (wrO_nn hwr)]]
      exact ⟨_, rfl, hm.base (by simp), RdAll.rd (e := 134) (css := [[Value.string (⟨#[85, 78, 72]⟩), .slice A8 2 c8], [Value.string (⟨#[66, 71, 77]⟩), .slice A13 2 c13], [Value.string (⟨#[76, 73, 78]⟩), .slice A16 3 c16], [Value.string (⟨#[81, 84, 89]⟩), .slice A20 1 c20], [Value.string (⟨#[80, 82, 73]⟩), .slice A24 1 c24], [Value.string (⟨#[82, 70, 70]⟩), .slice A28 1 c28], [Value.string (⟨#[85, 78, 84]⟩), .slice A30 2 c30]]) (xs := orderX o) (.cons (tySeg_mk (x := ⟨⟨#[85, 78, 72]⟩, [[⟨#[49]⟩], [⟨#[79, 82, 68, 69, 82, 83]⟩, ⟨#[68]⟩, ⟨#[57, 54, 65]⟩, ⟨#[85, 78]⟩]]⟩) rfl (show (3 : Nat) ≤ 9223372036854775807 by decide) (hs8.keep (Kept.made hm Zh hm8 (hm8.base (by simp)).size))) (.cons (tySeg_mk (x := ⟨⟨#[66, 71, 77]⟩, [[⟨#[50, 50, 48]⟩], [itoaS o.id]]⟩) rfl (show (3 : Nat) ≤ 9223372036854775807 by decide) (hs13.keep (Kept.made hm Zh hm13 (hm13.base (by simp)).size))) (.cons (tySeg_mk (x := ⟨⟨#[76, 73, 78]⟩, [[itoaS 1], [⟨#[]⟩], [recT o.src o.num, ⟨#[83, 82, 86]⟩]]⟩) rfl (show (3 : Nat) ≤ 9223372036854775807 by decide) (hs16.keep (Kept.made hm Zh hm16 (hm16.base (by simp)).size))) (.cons (tySeg_mk (x := ⟨⟨#[81, 84, 89]⟩, [[⟨#[50, 49]⟩, itoaS o.copies]]⟩) rfl (show (3 : Nat) ≤ 9223372036854775807 by decide) (hs20.keep (Kept.made hm Zh hm20 (hm20.base (by simp)).size))) (.cons (tySeg_mk (x := ⟨⟨#[80, 82, 73]⟩, [[⟨#[65, 65, 65]⟩, itoaS o.price]]⟩) rfl (show (3 : Nat) ≤ 9223372036854775807 by decide) (hs24.keep (Kept.made hm Zh hm24 (hm24.base (by simp)).size))) (.cons (tySeg_mk (x := ⟨⟨#[82, 70, 70]⟩, [[⟨#[66, 70, 78]⟩, itoaS o.fund]]⟩) rfl (show (3 : Nat) ≤ 9223372036854775807 by decide) (hs28.keep (Kept.made hm Zh hm28 (hm28.base (by simp)).size))) (.cons (tySeg_mk (x := ⟨⟨#[85, 78, 84]⟩, [[⟨#[55]⟩], [⟨#[49]⟩]]⟩) rfl (show (3 : Nat) ≤ 9223372036854775807 by decide) (hs30.keep (Kept.made hm Zh hm30 (hm30.base (by simp)).size))) (.nil)))))))) hm (.head _) Zh rfl (show (7 : Nat) ≤ maxLen by decide), fun h => absurd (show (7 : Nat) = 0 from h) (by decide)⟩
     refine t_gr (Q := fun _ _ _ => False) ?_ t_nil
     refine x_buildSliceL (cs := [Value.string (⟨#[55]⟩), Value.string (⟨#[49]⟩)]) rfl rfl rfl u78 sz9 zr9 rfl rfl rfl ?_
     intro p29
     refine Ze ?_
     refine t_gr (Q := fun _ _ _ => False) ?_ t_nil
     refine x_call (R := fun v wa wb => ∃ A c, v = .agg #[.string (⟨#[81, 84, 89]⟩), .slice A 1 c] ∧ sliceRd (tySlice tyStr) (fun b => wa.heap.size ≤ b) wb (.slice A 1 c) [[⟨#[50, 49]⟩, itoaS o.copies]]) rfl rfl rfl Tryz.func132 Zk rfl (fun w1 hw1 => (c_pair ⟨#[81, 84, 89]⟩ ⟨#[50, 49]⟩ (itoaS o.copies) w1 (okS_small (by decide)) (itoa_ok i5)).mono fun e w2 ⟨u, h1, h2, h3⟩ => seg_out h1 h2 h3) fun v20 wa20 wb20 hm20 hl20 hR20 => ?_
     obtain ⟨A20, c20, rfl, hs20⟩ := hR20
     refine Ze ?_
     refine t_flt (Q := fun _ _ _ => False) ?_
     refine x_callv rfl rfl rfl Tryz.func73 Zk rfl (fun w1 hw1 => c_Dec o.price w1 n6 i6) ?_
     refine Ze ?_
     refine t_gr (Q := fun _ _ _ => False) ?_ t_nil
     refine x_call (R := fun v wa wb => ∃ A c, v = .agg #[.string (⟨#[80, 82, 73]⟩), .slice A 1 c] ∧ sliceRd (tySlice tyStr) (fun b => wa.heap.size ≤ b) wb (.slice A 1 c) [[⟨#[65, 65, 65]⟩, itoaS o.price]]) rfl rfl rfl Tryz.func132 Zk rfl (fun w1 hw1 => (c_pair ⟨#[80, 82, 73]⟩ ⟨#[65, 65, 65]⟩ (itoaS o.price) w1 (okS_small (by decide)) (itoa_ok i6)).mono fun e w2 ⟨u, h1, h2, h3⟩ => seg_out h1 h2 h3) fun v24 wa24 wb24 hm24 hl24 hR24 => ?_
     obtain ⟨A24, c24, rfl, hs24⟩ := hR24
     refine Ze ?_
     refine t_flt (Q := fun _ _ _ => False) ?_
     refine x_callv rfl rfl rfl Tryz.func73 Zk rfl (fun w1 hw1 => c_Dec o.fund w1 n2 i2) ?_
     refine Ze ?_
     refine t_gr (Q := fun _ _ _ => False) ?_ t_nil
     refine x_call (R := fun v wa wb => ∃ A c, v = .agg #[.string (⟨#[82, 70, 70]⟩), .slice A 1 c] ∧ sliceRd (tySlice tyStr) (fun b => wa.heap.size ≤ b) wb (.slice A 1 c) [[⟨#[66, 70, 78]⟩, itoaS o.fund]]) rfl rfl rfl Tryz.func132 Zk rfl (fun w1 hw1 => (c_pair ⟨#[82, 70, 70]⟩ ⟨#[66, 70, 78]⟩ (itoaS o.fund) w1 (okS_small (by decide)) (itoa_ok i2)).mono fun e w2 ⟨u, h1, h2, h3⟩ => seg_out h1 h2 h3) fun v28 wa28 wb28 hm28 hl28 hR28 => ?_
     obtain ⟨A28, c28, rfl, hs28⟩ := hR28
     refine Ze ?_
     refine t_gr (Q := fun _ _ _ => False) ?_ t_nil
     refine x_call (R := fun v wa wb => ∃ A c, v = .agg #[.string (⟨#[85, 78, 84]⟩), .slice A 2 c] ∧ sliceRd (tySlice tyStr) (fun b => wa.heap.size ≤ b) wb (.slice A 2 c) [[⟨#[55]⟩], [⟨#[49]⟩]]) rfl rfl rfl Tryz.func130 Zk rfl (fun w1 hw1 => (c_one (es := [⟨#[55]⟩, ⟨#[49]⟩]) (D := fun _ => True) ⟨#[85, 78, 84]⟩ w1 (lits_own (T := tyStr) (D := fun _ => True) (e := 9) (b := p29) [[Value.string (⟨#[55]⟩)], [Value.string (⟨#[49]⟩)]] (xs := [⟨#[55]⟩, ⟨#[49]⟩]) hw1 Zh rfl (by simp) trivial ⟨⟨rfl, (okS_small (by decide))⟩, ⟨rfl, (okS_small (by decide))⟩, trivial⟩) (by simp)).mono fun e w2 ⟨u, h1, h2, h3⟩ => seg_out h1 h2 h3) fun v30 wa30 wb30 hm30 hl30 hR30 => ?_
     obtain ⟨A30, c30, rfl, hs30⟩ := hR30
     refine Ze ?_
     refine t_gr (Q := fun _ _ _ => False) ?_ t_nil
     refine x_buildSliceL (cs := ([[Value.string (⟨#[85, 78, 72]⟩), .slice A8 2 c8], [Value.string (⟨#[66, 71, 77]⟩), .slice A13 2 c13], [Value.string (⟨#[76, 73, 78]⟩), .slice A16 3 c16], [Value.string (⟨#[81, 84, 89]⟩), .slice A20 1 c20], [Value.string (⟨#[80, 82, 73]⟩), .slice A24 1 c24], [Value.string (⟨#[82, 70, 70]⟩), .slice A28 1 c28], [Value.string (⟨#[85, 78, 84]⟩), .slice A30 2 c30]] : List (List Value)).flatten) rfl rfl rfl u56 sz134 zr134 rfl rfl rfl ?_
     intro p31
     refine Ze ?_
     refine t_flt (Q := fun _ _ _ => False) ?_
     refine Xa ?_
     refine Ze ?_
     refine t_done ?_
     refine Ze (Zt (w_ret ?_))
     refine ret1 rfl rfl (fun w' hm => ?_)
     rw [show orderR o = orderX o from by unfold orderR; rw [if_pos hw, orderP_X (wrO_nn hwr)]]
     exact ⟨_, rfl, hm.base (by simp), RdAll.rd (e := 134) (css := [[Value.string (⟨#[85, 78, 72]⟩), .slice A8 2 c8], [Value.string (⟨#[66, 71, 77]⟩), .slice A13 2 c13], [Value.string (⟨#[76, 73, 78]⟩), .slice A16 3 c16], [Value.string (⟨#[81, 84, 89]⟩), .slice A20 1 c20], [Value.string (⟨#[80, 82, 73]⟩), .slice A24 1 c24], [Value.string (⟨#[82, 70, 70]⟩), .slice A28 1 c28], [Value.string (⟨#[85, 78, 84]⟩), .slice A30 2 c30]]) (xs := orderX o) (.cons (tySeg_mk (x := ⟨⟨#[85, 78, 72]⟩, [[⟨#[49]⟩], [⟨#[79, 82, 68, 69, 82, 83]⟩, ⟨#[68]⟩, ⟨#[57, 54, 65]⟩, ⟨#[85, 78]⟩]]⟩) rfl (show (3 : Nat) ≤ 9223372036854775807 by decide) (hs8.keep (Kept.made hm Zh hm8 (hm8.base (by simp)).size))) (.cons (tySeg_mk (x := ⟨⟨#[66, 71, 77]⟩, [[⟨#[50, 50, 48]⟩], [itoaS o.id]]⟩) rfl (show (3 : Nat) ≤ 9223372036854775807 by decide) (hs13.keep (Kept.made hm Zh hm13 (hm13.base (by simp)).size))) (.cons (tySeg_mk (x := ⟨⟨#[76, 73, 78]⟩, [[itoaS 1], [⟨#[]⟩], [recT o.src o.num, ⟨#[83, 82, 86]⟩]]⟩) rfl (show (3 : Nat) ≤ 9223372036854775807 by decide) (hs16.keep (Kept.made hm Zh hm16 (hm16.base (by simp)).size))) (.cons (tySeg_mk (x := ⟨⟨#[81, 84, 89]⟩, [[⟨#[50, 49]⟩, itoaS o.copies]]⟩) rfl (show (3 : Nat) ≤ 9223372036854775807 by decide) (hs20.keep (Kept.made hm Zh hm20 (hm20.base (by simp)).size))) (.cons (tySeg_mk (x := ⟨⟨#[80, 82, 73]⟩, [[⟨#[65, 65, 65]⟩, itoaS o.price]]⟩) rfl (show (3 : Nat) ≤ 9223372036854775807 by decide) (hs24.keep (Kept.made hm Zh hm24 (hm24.base (by simp)).size))) (.cons (tySeg_mk (x := ⟨⟨#[82, 70, 70]⟩, [[⟨#[66, 70, 78]⟩, itoaS o.fund]]⟩) rfl (show (3 : Nat) ≤ 9223372036854775807 by decide) (hs28.keep (Kept.made hm Zh hm28 (hm28.base (by simp)).size))) (.cons (tySeg_mk (x := ⟨⟨#[85, 78, 84]⟩, [[⟨#[55]⟩], [⟨#[49]⟩]]⟩) rfl (show (3 : Nat) ≤ 9223372036854775807 by decide) (hs30.keep (Kept.made hm Zh hm30 (hm30.base (by simp)).size))) (.nil)))))))) hm (.head _) Zh rfl (show (7 : Nat) ≤ maxLen by decide), fun h => absurd (show (7 : Nat) = 0 from h) (by decide)⟩
    refine t_gr (Q := fun _ _ _ => False) ?_ t_nil
    refine x_buildSliceL (cs := [Value.string (⟨#[55]⟩), Value.string (⟨#[49]⟩)]) rfl rfl rfl u78 sz9 zr9 rfl rfl rfl ?_
    intro p29
    refine Ze ?_
    refine t_gr (Q := fun _ _ _ => False) ?_ t_nil
    refine x_call (R := fun v wa wb => ∃ A c, v = .agg #[.string (⟨#[76, 73, 78]⟩), .slice A 3 c] ∧ sliceRd (tySlice tyStr) (fun b => wa.heap.size ≤ b) wb (.slice A 3 c) [[itoaS 1], [⟨#[]⟩], [recT o.src o.num, ⟨#[83, 82, 86]⟩]]) rfl rfl rfl Tryz.func131 Zk rfl (fun w1 hw1 => (c_line 1 (o.src, o.num) w1 ⟨by decide, by unfold in64; decide⟩ ⟨n3, i3⟩ ⟨n4, i4⟩).mono fun e w2 ⟨u, h1, h2, h3⟩ => seg_out h1 h2 h3) fun v16 wa16 wb16 hm16 hl16 hR16 => ?_
    obtain ⟨A16, c16, rfl, hs16⟩ := hR16
    refine Ze ?_
    refine t_flt (Q := fun _ _ _ => False) ?_
    refine x_callv rfl rfl rfl Tryz.func73 Zk rfl (fun w1 hw1 => c_Dec o.copies w1 n5 i5) ?_
    refine Ze ?_
    refine t_gr (Q := fun _ _ _ => False) ?_ t_nil
    refine x_call (R := fun v wa wb => ∃ A c, v = .agg #[.string (⟨#[81, 84, 89]⟩), .slice A 1 c] ∧ sliceRd (tySlice tyStr) (fun b => wa.heap.size ≤ b) wb (.slice A 1 c) [[⟨#[50, 49]⟩, itoaS o.copies]]) rfl rfl rfl Tryz.func132 Zk rfl (fun w1 hw1 => (c_pair ⟨#[81, 84, 89]⟩ ⟨#[50, 49]⟩ (itoaS o.copies) w1 (okS_small (by decide)) (itoa_ok i5)).mono fun e w2 ⟨u, h1, h2, h3⟩ => seg_out h1 h2 h3) fun v20 wa20 wb20 hm20 hl20 hR20 => ?_
    obtain ⟨A20, c20, rfl, hs20⟩ := hR20
    refine Ze ?_
    refine t_flt (Q := fun _ _ _ => False) ?_
    refine x_callv rfl rfl rfl Tryz.func73 Zk rfl (fun w1 hw1 => c_Dec o.price w1 n6 i6) ?_
    refine Ze ?_
    refine t_gr (Q := fun _ _ _ => False) ?_ t_nil
    refine x_call (R := fun v wa wb => ∃ A c, v = .agg #[.string (⟨#[80, 82, 73]⟩), .slice A 1 c] ∧ sliceRd (tySlice tyStr) (fun b => wa.heap.size ≤ b) wb (.slice A 1 c) [[⟨#[65, 65, 65]⟩, itoaS o.price]]) rfl rfl rfl Tryz.func132 Zk rfl (fun w1 hw1 => (c_pair ⟨#[80, 82, 73]⟩ ⟨#[65, 65, 65]⟩ (itoaS o.price) w1 (okS_small (by decide)) (itoa_ok i6)).mono fun e w2 ⟨u, h1, h2, h3⟩ => seg_out h1 h2 h3) fun v24 wa24 wb24 hm24 hl24 hR24 => ?_
    obtain ⟨A24, c24, rfl, hs24⟩ := hR24
    refine Ze ?_
    refine t_flt (Q := fun _ _ _ => False) ?_
    refine x_callv rfl rfl rfl Tryz.func73 Zk rfl (fun w1 hw1 => c_Dec o.fund w1 n2 i2) ?_
    refine Ze ?_
    refine t_gr (Q := fun _ _ _ => False) ?_ t_nil
    refine x_call (R := fun v wa wb => ∃ A c, v = .agg #[.string (⟨#[82, 70, 70]⟩), .slice A 1 c] ∧ sliceRd (tySlice tyStr) (fun b => wa.heap.size ≤ b) wb (.slice A 1 c) [[⟨#[66, 70, 78]⟩, itoaS o.fund]]) rfl rfl rfl Tryz.func132 Zk rfl (fun w1 hw1 => (c_pair ⟨#[82, 70, 70]⟩ ⟨#[66, 70, 78]⟩ (itoaS o.fund) w1 (okS_small (by decide)) (itoa_ok i2)).mono fun e w2 ⟨u, h1, h2, h3⟩ => seg_out h1 h2 h3) fun v28 wa28 wb28 hm28 hl28 hR28 => ?_
    obtain ⟨A28, c28, rfl, hs28⟩ := hR28
    refine Ze ?_
    refine t_gr (Q := fun _ _ _ => False) ?_ t_nil
    refine x_call (R := fun v wa wb => ∃ A c, v = .agg #[.string (⟨#[85, 78, 84]⟩), .slice A 2 c] ∧ sliceRd (tySlice tyStr) (fun b => wa.heap.size ≤ b) wb (.slice A 2 c) [[⟨#[55]⟩], [⟨#[49]⟩]]) rfl rfl rfl Tryz.func130 Zk rfl (fun w1 hw1 => (c_one (es := [⟨#[55]⟩, ⟨#[49]⟩]) (D := fun _ => True) ⟨#[85, 78, 84]⟩ w1 (lits_own (T := tyStr) (D := fun _ => True) (e := 9) (b := p29) [[Value.string (⟨#[55]⟩)], [Value.string (⟨#[49]⟩)]] (xs := [⟨#[55]⟩, ⟨#[49]⟩]) hw1 Zh rfl (by simp) trivial ⟨⟨rfl, (okS_small (by decide))⟩, ⟨rfl, (okS_small (by decide))⟩, trivial⟩) (by simp)).mono fun e w2 ⟨u, h1, h2, h3⟩ => seg_out h1 h2 h3) fun v30 wa30 wb30 hm30 hl30 hR30 => ?_
    obtain ⟨A30, c30, rfl, hs30⟩ := hR30
    refine Ze ?_
    refine t_gr (Q := fun _ _ _ => False) ?_ t_nil
    refine x_buildSliceL (cs := ([[Value.string (⟨#[85, 78, 72]⟩), .slice A8 2 c8], [Value.string (⟨#[66, 71, 77]⟩), .slice A13 2 c13], [Value.string (⟨#[76, 73, 78]⟩), .slice A16 3 c16], [Value.string (⟨#[81, 84, 89]⟩), .slice A20 1 c20], [Value.string (⟨#[80, 82, 73]⟩), .slice A24 1 c24], [Value.string (⟨#[82, 70, 70]⟩), .slice A28 1 c28], [Value.string (⟨#[85, 78, 84]⟩), .slice A30 2 c30]] : List (List Value)).flatten) rfl rfl rfl u56 sz134 zr134 rfl rfl rfl ?_
    intro p31
    refine Ze ?_
    refine t_flt (Q := fun _ _ _ => False) ?_
    refine Xa ?_
    refine Ze ?_
    refine t_done ?_
    refine Ze (Zt (w_ret ?_))
    refine ret1 rfl rfl (fun w' hm => ?_)
    rw [show orderR o = orderX o from by unfold orderR; rw [if_pos hw, orderP_X (wrO_nn hwr)]]
    exact ⟨_, rfl, hm.base (by simp), RdAll.rd (e := 134) (css := [[Value.string (⟨#[85, 78, 72]⟩), .slice A8 2 c8], [Value.string (⟨#[66, 71, 77]⟩), .slice A13 2 c13], [Value.string (⟨#[76, 73, 78]⟩), .slice A16 3 c16], [Value.string (⟨#[81, 84, 89]⟩), .slice A20 1 c20], [Value.string (⟨#[80, 82, 73]⟩), .slice A24 1 c24], [Value.string (⟨#[82, 70, 70]⟩), .slice A28 1 c28], [Value.string (⟨#[85, 78, 84]⟩), .slice A30 2 c30]]) (xs := orderX o) (.cons (tySeg_mk (x := ⟨⟨#[85, 78, 72]⟩, [[⟨#[49]⟩], [⟨#[79, 82, 68, 69, 82, 83]⟩, ⟨#[68]⟩, ⟨#[57, 54, 65]⟩, ⟨#[85, 78]⟩]]⟩) rfl (show (3 : Nat) ≤ 9223372036854775807 by decide) (hs8.keep (Kept.made hm Zh hm8 (hm8.base (by simp)).size))) (.cons (tySeg_mk (x := ⟨⟨#[66, 71, 77]⟩, [[⟨#[50, 50, 48]⟩], [itoaS o.id]]⟩) rfl (show (3 : Nat) ≤ 9223372036854775807 by decide) (hs13.keep (Kept.made hm Zh hm13 (hm13.base (by simp)).size))) (.cons (tySeg_mk (x := ⟨⟨#[76, 73, 78]⟩, [[itoaS 1], [⟨#[]⟩], [recT o.src o.num, ⟨#[83, 82, 86]⟩]]⟩) rfl (show (3 : Nat) ≤ 9223372036854775807 by decide) (hs16.keep (Kept.made hm Zh hm16 (hm16.base (by simp)).size))) (.cons (tySeg_mk (x := ⟨⟨#[81, 84, 89]⟩, [[⟨#[50, 49]⟩, itoaS o.copies]]⟩) rfl (show (3 : Nat) ≤ 9223372036854775807 by decide) (hs20.keep (Kept.made hm Zh hm20 (hm20.base (by simp)).size))) (.cons (tySeg_mk (x := ⟨⟨#[80, 82, 73]⟩, [[⟨#[65, 65, 65]⟩, itoaS o.price]]⟩) rfl (show (3 : Nat) ≤ 9223372036854775807 by decide) (hs24.keep (Kept.made hm Zh hm24 (hm24.base (by simp)).size))) (.cons (tySeg_mk (x := ⟨⟨#[82, 70, 70]⟩, [[⟨#[66, 70, 78]⟩, itoaS o.fund]]⟩) rfl (show (3 : Nat) ≤ 9223372036854775807 by decide) (hs28.keep (Kept.made hm Zh hm28 (hm28.base (by simp)).size))) (.cons (tySeg_mk (x := ⟨⟨#[85, 78, 84]⟩, [[⟨#[55]⟩], [⟨#[49]⟩]]⟩) rfl (show (3 : Nat) ≤ 9223372036854775807 by decide) (hs30.keep (Kept.made hm Zh hm30 (hm30.base (by simp)).size))) (.nil)))))))) hm (.head _) Zh rfl (show (7 : Nat) ≤ maxLen by decide), fun h => absurd (show (7 : Nat) = 0 from h) (by decide)⟩
   refine t_gr (Q := fun _ _ _ => False) ?_ t_nil
   refine x_buildSliceL (cs := [Value.string (⟨#[55]⟩), Value.string (⟨#[49]⟩)]) rfl rfl rfl u78 sz9 zr9 rfl rfl rfl ?_
   intro p29
   refine Ze ?_
   refine t_gr (Q := fun _ _ _ => False) ?_ t_nil
   refine x_call (R := fun v wa wb => ∃ A c, v = .agg #[.string (⟨#[66, 71, 77]⟩), .slice A 2 c] ∧ sliceRd (tySlice tyStr) (fun b => wa.heap.size ≤ b) wb (.slice A 2 c) [[⟨#[50, 50, 48]⟩], [itoaS o.id]]) rfl rfl rfl Tryz.func130 Zk rfl (fun w1 hw1 => (c_one (es := [⟨#[50, 50, 48]⟩, itoaS o.id]) (D := fun _ => True) ⟨#[66, 71, 77]⟩ w1 (lits_own (T := tyStr) (D := fun _ => True) (e := 9) (b := p12) [[Value.string (⟨#[50, 50, 48]⟩)], [Value.string (itoaS o.id)]] (xs := [⟨#[50, 50, 48]⟩, itoaS o.id]) hw1 Zh rfl (by simp) trivial ⟨⟨rfl, (okS_small (by decide))⟩, ⟨rfl, itoa_ok i1⟩, trivial⟩) (by simp)).mono fun e w2 ⟨u, h1, h2, h3⟩ => seg_out h1 h2 h3) fun v13 wa13 wb13 hm13 hl13 hR13 => ?_
   obtain ⟨A13, c13, rfl, hs13⟩ := hR13
   refine Ze ?_
   refine t_gr (Q := fun _ _ _ => False) ?_ t_nil
   refine x_call (R := fun v wa wb => ∃ A c, v = .agg #[.string (⟨#[76, 73, 78]⟩), .slice A 3 c] ∧ sliceRd (tySlice tyStr) (fun b => wa.heap.size ≤ b) wb (.slice A 3 c) [[itoaS 1], [⟨#[]⟩], [recT o.src o.num, ⟨#[83, 82, 86]⟩]]) rfl rfl rfl Tryz.func131 Zk rfl (fun w1 hw1 => (c_line 1 (o.src, o.num) w1 ⟨by decide, by unfold in64; decide⟩ ⟨n3, i3⟩ ⟨n4, i4⟩).mono fun e w2 ⟨u, h1, h2, h3⟩ => seg_out h1 h2 h3) fun v16 wa16 wb16 hm16 hl16 hR16 => ?_
   obtain ⟨A16, c16, rfl, hs16⟩ := hR16
   refine Ze ?_
   refine t_flt (Q := fun _ _ _ => False) ?_
   refine x_callv rfl rfl rfl Tryz.func73 Zk rfl (fun w1 hw1 => c_Dec o.copies w1 n5 i5) ?_
   refine Ze ?_
   refine t_gr (Q := fun _ _ _ => False) ?_ t_nil
   refine x_call (R := fun v wa wb => ∃ A c, v = .agg #[.string (⟨#[81, 84, 89]⟩), .slice A 1 c] ∧ sliceRd (tySlice tyStr) (fun b => wa.heap.size ≤ b) wb (.slice A 1 c) [[⟨#[50, 49]⟩, itoaS o.copies]]) rfl rfl rfl Tryz.func132 Zk rfl (fun w1 hw1 => (c_pair ⟨#[81, 84, 89]⟩ ⟨#[50, 49]⟩ (itoaS o.copies) w1 (okS_small (by decide)) (itoa_ok i5)).mono fun e w2 ⟨u, h1, h2, h3⟩ => seg_out h1 h2 h3) fun v20 wa20 wb20 hm20 hl20 hR20 => ?_
   obtain ⟨A20, c20, rfl, hs20⟩ := hR20
   refine Ze ?_
   refine t_flt (Q := fun _ _ _ => False) ?_
   refine x_callv rfl rfl rfl Tryz.func73 Zk rfl (fun w1 hw1 => c_Dec o.price w1 n6 i6) ?_
   refine Ze ?_
   refine t_gr (Q := fun _ _ _ => False) ?_ t_nil
   refine x_call (R := fun v wa wb => ∃ A c, v = .agg #[.string (⟨#[80, 82, 73]⟩), .slice A 1 c] ∧ sliceRd (tySlice tyStr) (fun b => wa.heap.size ≤ b) wb (.slice A 1 c) [[⟨#[65, 65, 65]⟩, itoaS o.price]]) rfl rfl rfl Tryz.func132 Zk rfl (fun w1 hw1 => (c_pair ⟨#[80, 82, 73]⟩ ⟨#[65, 65, 65]⟩ (itoaS o.price) w1 (okS_small (by decide)) (itoa_ok i6)).mono fun e w2 ⟨u, h1, h2, h3⟩ => seg_out h1 h2 h3) fun v24 wa24 wb24 hm24 hl24 hR24 => ?_
   obtain ⟨A24, c24, rfl, hs24⟩ := hR24
   refine Ze ?_
   refine t_flt (Q := fun _ _ _ => False) ?_
   refine x_callv rfl rfl rfl Tryz.func73 Zk rfl (fun w1 hw1 => c_Dec o.fund w1 n2 i2) ?_
   refine Ze ?_
   refine t_gr (Q := fun _ _ _ => False) ?_ t_nil
   refine x_call (R := fun v wa wb => ∃ A c, v = .agg #[.string (⟨#[82, 70, 70]⟩), .slice A 1 c] ∧ sliceRd (tySlice tyStr) (fun b => wa.heap.size ≤ b) wb (.slice A 1 c) [[⟨#[66, 70, 78]⟩, itoaS o.fund]]) rfl rfl rfl Tryz.func132 Zk rfl (fun w1 hw1 => (c_pair ⟨#[82, 70, 70]⟩ ⟨#[66, 70, 78]⟩ (itoaS o.fund) w1 (okS_small (by decide)) (itoa_ok i2)).mono fun e w2 ⟨u, h1, h2, h3⟩ => seg_out h1 h2 h3) fun v28 wa28 wb28 hm28 hl28 hR28 => ?_
   obtain ⟨A28, c28, rfl, hs28⟩ := hR28
   refine Ze ?_
   refine t_gr (Q := fun _ _ _ => False) ?_ t_nil
   refine x_call (R := fun v wa wb => ∃ A c, v = .agg #[.string (⟨#[85, 78, 84]⟩), .slice A 2 c] ∧ sliceRd (tySlice tyStr) (fun b => wa.heap.size ≤ b) wb (.slice A 2 c) [[⟨#[55]⟩], [⟨#[49]⟩]]) rfl rfl rfl Tryz.func130 Zk rfl (fun w1 hw1 => (c_one (es := [⟨#[55]⟩, ⟨#[49]⟩]) (D := fun _ => True) ⟨#[85, 78, 84]⟩ w1 (lits_own (T := tyStr) (D := fun _ => True) (e := 9) (b := p29) [[Value.string (⟨#[55]⟩)], [Value.string (⟨#[49]⟩)]] (xs := [⟨#[55]⟩, ⟨#[49]⟩]) hw1 Zh rfl (by simp) trivial ⟨⟨rfl, (okS_small (by decide))⟩, ⟨rfl, (okS_small (by decide))⟩, trivial⟩) (by simp)).mono fun e w2 ⟨u, h1, h2, h3⟩ => seg_out h1 h2 h3) fun v30 wa30 wb30 hm30 hl30 hR30 => ?_
   obtain ⟨A30, c30, rfl, hs30⟩ := hR30
   refine Ze ?_
   refine t_gr (Q := fun _ _ _ => False) ?_ t_nil
   refine x_buildSliceL (cs := ([[Value.string (⟨#[85, 78, 72]⟩), .slice A8 2 c8], [Value.string (⟨#[66, 71, 77]⟩), .slice A13 2 c13], [Value.string (⟨#[76, 73, 78]⟩), .slice A16 3 c16], [Value.string (⟨#[81, 84, 89]⟩), .slice A20 1 c20], [Value.string (⟨#[80, 82, 73]⟩), .slice A24 1 c24], [Value.string (⟨#[82, 70, 70]⟩), .slice A28 1 c28], [Value.string (⟨#[85, 78, 84]⟩), .slice A30 2 c30]] : List (List Value)).flatten) rfl rfl rfl u56 sz134 zr134 rfl rfl rfl ?_
   intro p31
   refine Ze ?_
   refine t_flt (Q := fun _ _ _ => False) ?_
   refine Xa ?_
   refine Ze ?_
   refine t_done ?_
   refine Ze (Zt (w_ret ?_))
   refine ret1 rfl rfl (fun w' hm => ?_)
   rw [show orderR o = orderX o from by unfold orderR; rw [if_pos hw, orderP_X (wrO_nn hwr)]]
   exact ⟨_, rfl, hm.base (by simp), RdAll.rd (e := 134) (css := [[Value.string (⟨#[85, 78, 72]⟩), .slice A8 2 c8], [Value.string (⟨#[66, 71, 77]⟩), .slice A13 2 c13], [Value.string (⟨#[76, 73, 78]⟩), .slice A16 3 c16], [Value.string (⟨#[81, 84, 89]⟩), .slice A20 1 c20], [Value.string (⟨#[80, 82, 73]⟩), .slice A24 1 c24], [Value.string (⟨#[82, 70, 70]⟩), .slice A28 1 c28], [Value.string (⟨#[85, 78, 84]⟩), .slice A30 2 c30]]) (xs := orderX o) (.cons (tySeg_mk (x := ⟨⟨#[85, 78, 72]⟩, [[⟨#[49]⟩], [⟨#[79, 82, 68, 69, 82, 83]⟩, ⟨#[68]⟩, ⟨#[57, 54, 65]⟩, ⟨#[85, 78]⟩]]⟩) rfl (show (3 : Nat) ≤ 9223372036854775807 by decide) (hs8.keep (Kept.made hm Zh hm8 (hm8.base (by simp)).size))) (.cons (tySeg_mk (x := ⟨⟨#[66, 71, 77]⟩, [[⟨#[50, 50, 48]⟩], [itoaS o.id]]⟩) rfl (show (3 : Nat) ≤ 9223372036854775807 by decide) (hs13.keep (Kept.made hm Zh hm13 (hm13.base (by simp)).size))) (.cons (tySeg_mk (x := ⟨⟨#[76, 73, 78]⟩, [[itoaS 1], [⟨#[]⟩], [recT o.src o.num, ⟨#[83, 82, 86]⟩]]⟩) rfl (show (3 : Nat) ≤ 9223372036854775807 by decide) (hs16.keep (Kept.made hm Zh hm16 (hm16.base (by simp)).size))) (.cons (tySeg_mk (x := ⟨⟨#[81, 84, 89]⟩, [[⟨#[50, 49]⟩, itoaS o.copies]]⟩) rfl (show (3 : Nat) ≤ 9223372036854775807 by decide) (hs20.keep (Kept.made hm Zh hm20 (hm20.base (by simp)).size))) (.cons (tySeg_mk (x := ⟨⟨#[80, 82, 73]⟩, [[⟨#[65, 65, 65]⟩, itoaS o.price]]⟩) rfl (show (3 : Nat) ≤ 9223372036854775807 by decide) (hs24.keep (Kept.made hm Zh hm24 (hm24.base (by simp)).size))) (.cons (tySeg_mk (x := ⟨⟨#[82, 70, 70]⟩, [[⟨#[66, 70, 78]⟩, itoaS o.fund]]⟩) rfl (show (3 : Nat) ≤ 9223372036854775807 by decide) (hs28.keep (Kept.made hm Zh hm28 (hm28.base (by simp)).size))) (.cons (tySeg_mk (x := ⟨⟨#[85, 78, 84]⟩, [[⟨#[55]⟩], [⟨#[49]⟩]]⟩) rfl (show (3 : Nat) ≤ 9223372036854775807 by decide) (hs30.keep (Kept.made hm Zh hm30 (hm30.base (by simp)).size))) (.nil)))))))) hm (.head _) Zh rfl (show (7 : Nat) ≤ maxLen by decide), fun h => absurd (show (7 : Nat) = 0 from h) (by decide)⟩
  refine t_gr (Q := fun _ _ _ => False) ?_ t_nil
  refine x_buildSliceL (cs := [Value.string (⟨#[55]⟩), Value.string (⟨#[49]⟩)]) rfl rfl rfl u78 sz9 zr9 rfl rfl rfl ?_
  intro p29
  refine Ze ?_
  refine t_gr (Q := fun _ _ _ => False) ?_ t_nil
  refine x_buildSliceL (cs := [Value.string (⟨#[50, 50, 48]⟩), Value.string (itoaS o.id)]) rfl rfl rfl u78 sz9 zr9 rfl rfl rfl ?_
  intro p12
  refine Ze ?_
  refine t_gr (Q := fun _ _ _ => False) ?_ t_nil
  refine x_call (R := fun v wa wb => ∃ A c, v = .agg #[.string (⟨#[66, 71, 77]⟩), .slice A 2 c] ∧ sliceRd (tySlice tyStr) (fun b => wa.heap.size ≤ b) wb (.slice A 2 c) [[⟨#[50, 50, 48]⟩], [itoaS o.id]]) rfl rfl rfl Tryz.func130 Zk rfl (fun w1 hw1 => (c_one (es := [⟨#[50, 50, 48]⟩, itoaS o.id]) (D := fun _ => True) ⟨#[66, 71, 77]⟩ w1 (lits_own (T := tyStr) (D := fun _ => True) (e := 9) (b := p12) [[Value.string (⟨#[50, 50, 48]⟩)], [Value.string (itoaS o.id)]] (xs := [⟨#[50, 50, 48]⟩, itoaS o.id]) hw1 Zh rfl (by simp) trivial ⟨⟨rfl, (okS_small (by decide))⟩, ⟨rfl, itoa_ok i1⟩, trivial⟩) (by simp)).mono fun e w2 ⟨u, h1, h2, h3⟩ => seg_out h1 h2 h3) fun v13 wa13 wb13 hm13 hl13 hR13 => ?_
  obtain ⟨A13, c13, rfl, hs13⟩ := hR13
  refine Ze ?_
  refine t_gr (Q := fun _ _ _ => False) ?_ t_nil
  refine x_call (R := fun v wa wb => ∃ A c, v = .agg #[.string (⟨#[76, 73, 78]⟩), .slice A 3 c] ∧ sliceRd (tySlice tyStr) (fun b => wa.heap.size ≤ b) wb (.slice A 3 c) [[itoaS 1], [⟨#[]⟩], [recT o.src o.num, ⟨#[83, 82, 86]⟩]]) rfl rfl rfl Tryz.func131 Zk rfl (fun w1 hw1 => (c_line 1 (o.src, o.num) w1 ⟨by decide, by unfold in64; decide⟩ ⟨n3, i3⟩ ⟨n4, i4⟩).mono fun e w2 ⟨u, h1, h2, h3⟩ => seg_out h1 h2 h3) fun v16 wa16 wb16 hm16 hl16 hR16 => ?_
  obtain ⟨A16, c16, rfl, hs16⟩ := hR16
  refine Ze ?_
  refine t_flt (Q := fun _ _ _ => False) ?_
  refine x_callv rfl rfl rfl Tryz.func73 Zk rfl (fun w1 hw1 => c_Dec o.copies w1 n5 i5) ?_
  refine Ze ?_
  refine t_gr (Q := fun _ _ _ => False) ?_ t_nil
  refine x_call (R := fun v wa wb => ∃ A c, v = .agg #[.string (⟨#[81, 84, 89]⟩), .slice A 1 c] ∧ sliceRd (tySlice tyStr) (fun b => wa.heap.size ≤ b) wb (.slice A 1 c) [[⟨#[50, 49]⟩, itoaS o.copies]]) rfl rfl rfl Tryz.func132 Zk rfl (fun w1 hw1 => (c_pair ⟨#[81, 84, 89]⟩ ⟨#[50, 49]⟩ (itoaS o.copies) w1 (okS_small (by decide)) (itoa_ok i5)).mono fun e w2 ⟨u, h1, h2, h3⟩ => seg_out h1 h2 h3) fun v20 wa20 wb20 hm20 hl20 hR20 => ?_
  obtain ⟨A20, c20, rfl, hs20⟩ := hR20
  refine Ze ?_
  refine t_flt (Q := fun _ _ _ => False) ?_
  refine x_callv rfl rfl rfl Tryz.func73 Zk rfl (fun w1 hw1 => c_Dec o.price w1 n6 i6) ?_
  refine Ze ?_
  refine t_gr (Q := fun _ _ _ => False) ?_ t_nil
  refine x_call (R := fun v wa wb => ∃ A c, v = .agg #[.string (⟨#[80, 82, 73]⟩), .slice A 1 c] ∧ sliceRd (tySlice tyStr) (fun b => wa.heap.size ≤ b) wb (.slice A 1 c) [[⟨#[65, 65, 65]⟩, itoaS o.price]]) rfl rfl rfl Tryz.func132 Zk rfl (fun w1 hw1 => (c_pair ⟨#[80, 82, 73]⟩ ⟨#[65, 65, 65]⟩ (itoaS o.price) w1 (okS_small (by decide)) (itoa_ok i6)).mono fun e w2 ⟨u, h1, h2, h3⟩ => seg_out h1 h2 h3) fun v24 wa24 wb24 hm24 hl24 hR24 => ?_
  obtain ⟨A24, c24, rfl, hs24⟩ := hR24
  refine Ze ?_
  refine t_flt (Q := fun _ _ _ => False) ?_
  refine x_callv rfl rfl rfl Tryz.func73 Zk rfl (fun w1 hw1 => c_Dec o.fund w1 n2 i2) ?_
  refine Ze ?_
  refine t_gr (Q := fun _ _ _ => False) ?_ t_nil
  refine x_call (R := fun v wa wb => ∃ A c, v = .agg #[.string (⟨#[82, 70, 70]⟩), .slice A 1 c] ∧ sliceRd (tySlice tyStr) (fun b => wa.heap.size ≤ b) wb (.slice A 1 c) [[⟨#[66, 70, 78]⟩, itoaS o.fund]]) rfl rfl rfl Tryz.func132 Zk rfl (fun w1 hw1 => (c_pair ⟨#[82, 70, 70]⟩ ⟨#[66, 70, 78]⟩ (itoaS o.fund) w1 (okS_small (by decide)) (itoa_ok i2)).mono fun e w2 ⟨u, h1, h2, h3⟩ => seg_out h1 h2 h3) fun v28 wa28 wb28 hm28 hl28 hR28 => ?_
  obtain ⟨A28, c28, rfl, hs28⟩ := hR28
  refine Ze ?_
  refine t_gr (Q := fun _ _ _ => False) ?_ t_nil
  refine x_call (R := fun v wa wb => ∃ A c, v = .agg #[.string (⟨#[85, 78, 84]⟩), .slice A 2 c] ∧ sliceRd (tySlice tyStr) (fun b => wa.heap.size ≤ b) wb (.slice A 2 c) [[⟨#[55]⟩], [⟨#[49]⟩]]) rfl rfl rfl Tryz.func130 Zk rfl (fun w1 hw1 => (c_one (es := [⟨#[55]⟩, ⟨#[49]⟩]) (D := fun _ => True) ⟨#[85, 78, 84]⟩ w1 (lits_own (T := tyStr) (D := fun _ => True) (e := 9) (b := p29) [[Value.string (⟨#[55]⟩)], [Value.string (⟨#[49]⟩)]] (xs := [⟨#[55]⟩, ⟨#[49]⟩]) hw1 Zh rfl (by simp) trivial ⟨⟨rfl, (okS_small (by decide))⟩, ⟨rfl, (okS_small (by decide))⟩, trivial⟩) (by simp)).mono fun e w2 ⟨u, h1, h2, h3⟩ => seg_out h1 h2 h3) fun v30 wa30 wb30 hm30 hl30 hR30 => ?_
  obtain ⟨A30, c30, rfl, hs30⟩ := hR30
  refine Ze ?_
  refine t_gr (Q := fun _ _ _ => False) ?_ t_nil
  refine x_buildSliceL (cs := ([[Value.string (⟨#[85, 78, 72]⟩), .slice A8 2 c8], [Value.string (⟨#[66, 71, 77]⟩), .slice A13 2 c13], [Value.string (⟨#[76, 73, 78]⟩), .slice A16 3 c16], [Value.string (⟨#[81, 84, 89]⟩), .slice A20 1 c20], [Value.string (⟨#[80, 82, 73]⟩), .slice A24 1 c24], [Value.string (⟨#[82, 70, 70]⟩), .slice A28 1 c28], [Value.string (⟨#[85, 78, 84]⟩), .slice A30 2 c30]] : List (List Value)).flatten) rfl rfl rfl u56 sz134 zr134 rfl rfl rfl ?_
  intro p31
  refine Ze ?_
  refine t_flt (Q := fun _ _ _ => False) ?_
  refine Xa ?_
  refine Ze ?_
  refine t_done ?_
  refine Ze (Zt (w_ret ?_))
  refine ret1 rfl rfl (fun w' hm => ?_)
  rw [show orderR o = orderX o from by unfold orderR; rw [if_pos hw, orderP_X (wrO_nn hwr)]]
  exact ⟨_, rfl, hm.base (by simp), RdAll.rd (e := 134) (css := [[Value.string (⟨#[85, 78, 72]⟩), .slice A8 2 c8], [Value.string (⟨#[66, 71, 77]⟩), .slice A13 2 c13], [Value.string (⟨#[76, 73, 78]⟩), .slice A16 3 c16], [Value.string (⟨#[81, 84, 89]⟩), .slice A20 1 c20], [Value.string (⟨#[80, 82, 73]⟩), .slice A24 1 c24], [Value.string (⟨#[82, 70, 70]⟩), .slice A28 1 c28], [Value.string (⟨#[85, 78, 84]⟩), .slice A30 2 c30]]) (xs := orderX o) (.cons (tySeg_mk (x := ⟨⟨#[85, 78, 72]⟩, [[⟨#[49]⟩], [⟨#[79, 82, 68, 69, 82, 83]⟩, ⟨#[68]⟩, ⟨#[57, 54, 65]⟩, ⟨#[85, 78]⟩]]⟩) rfl (show (3 : Nat) ≤ 9223372036854775807 by decide) (hs8.keep (Kept.made hm Zh hm8 (hm8.base (by simp)).size))) (.cons (tySeg_mk (x := ⟨⟨#[66, 71, 77]⟩, [[⟨#[50, 50, 48]⟩], [itoaS o.id]]⟩) rfl (show (3 : Nat) ≤ 9223372036854775807 by decide) (hs13.keep (Kept.made hm Zh hm13 (hm13.base (by simp)).size))) (.cons (tySeg_mk (x := ⟨⟨#[76, 73, 78]⟩, [[itoaS 1], [⟨#[]⟩], [recT o.src o.num, ⟨#[83, 82, 86]⟩]]⟩) rfl (show (3 : Nat) ≤ 9223372036854775807 by decide) (hs16.keep (Kept.made hm Zh hm16 (hm16.base (by simp)).size))) (.cons (tySeg_mk (x := ⟨⟨#[81, 84, 89]⟩, [[⟨#[50, 49]⟩, itoaS o.copies]]⟩) rfl (show (3 : Nat) ≤ 9223372036854775807 by decide) (hs20.keep (Kept.made hm Zh hm20 (hm20.base (by simp)).size))) (.cons (tySeg_mk (x := ⟨⟨#[80, 82, 73]⟩, [[⟨#[65, 65, 65]⟩, itoaS o.price]]⟩) rfl (show (3 : Nat) ≤ 9223372036854775807 by decide) (hs24.keep (Kept.made hm Zh hm24 (hm24.base (by simp)).size))) (.cons (tySeg_mk (x := ⟨⟨#[82, 70, 70]⟩, [[⟨#[66, 70, 78]⟩, itoaS o.fund]]⟩) rfl (show (3 : Nat) ≤ 9223372036854775807 by decide) (hs28.keep (Kept.made hm Zh hm28 (hm28.base (by simp)).size))) (.cons (tySeg_mk (x := ⟨⟨#[85, 78, 84]⟩, [[⟨#[55]⟩], [⟨#[49]⟩]]⟩) rfl (show (3 : Nat) ≤ 9223372036854775807 by decide) (hs30.keep (Kept.made hm Zh hm30 (hm30.base (by simp)).size))) (.nil)))))))) hm (.head _) Zh rfl (show (7 : Nat) ≤ maxLen by decide), fun h => absurd (show (7 : Nat) = 0 from h) (by decide)⟩
 refine t_gr (Q := fun _ _ _ => False) ?_ t_nil
 refine x_buildSliceL (cs := [Value.string (⟨#[55]⟩), Value.string (⟨#[49]⟩)]) rfl rfl rfl u78 sz9 zr9 rfl rfl rfl ?_
 intro p29
 refine Ze ?_
 refine t_gr (Q := fun _ _ _ => False) ?_ t_nil
 refine x_call (R := fun v wa wb => ∃ A c, v = .agg #[.string (⟨#[85, 78, 72]⟩), .slice A 2 c] ∧ sliceRd (tySlice tyStr) (fun b => wa.heap.size ≤ b) wb (.slice A 2 c) [[⟨#[49]⟩], [⟨#[79, 82, 68, 69, 82, 83]⟩, ⟨#[68]⟩, ⟨#[57, 54, 65]⟩, ⟨#[85, 78]⟩]]) rfl rfl rfl Tryz.func129 Zk rfl (fun w1 hw1 => (c_header ⟨#[79, 82, 68, 69, 82, 83]⟩ w1 (okS_small (by decide))).mono fun e w2 ⟨u, h1, h2, h3⟩ => seg_out h1 h2 h3) fun v8 wa8 wb8 hm8 hl8 hR8 => ?_
 obtain ⟨A8, c8, rfl, hs8⟩ := hR8
 refine Ze ?_
 refine t_flt (Q := fun _ _ _ => False) ?_
 refine x_callv rfl rfl rfl Tryz.func73 Zk rfl (fun w1 hw1 => c_Dec o.id w1 n1 i1) ?_
 refine Ze ?_
 refine t_gr (Q := fun _ _ _ => False) ?_ t_nil
 refine x_buildSliceL (cs := [Value.string (⟨#[50, 50, 48]⟩), Value.string (itoaS o.id)]) rfl rfl rfl u78 sz9 zr9 rfl rfl rfl ?_
 intro p12
 refine Ze ?_
 refine t_gr (Q := fun _ _ _ => False) ?_ t_nil
 refine x_call (R := fun v wa wb => ∃ A c, v = .agg #[.string (⟨#[66, 71, 77]⟩), .slice A 2 c] ∧ sliceRd (tySlice tyStr) (fun b => wa.heap.size ≤ b) wb (.slice A 2 c) [[⟨#[50, 50, 48]⟩], [itoaS o.id]]) rfl rfl rfl Tryz.func130 Zk rfl (fun w1 hw1 => (c_one (es := [⟨#[50, 50, 48]⟩, itoaS o.id]) (D := fun _ => True) ⟨#[66, 71, 77]⟩ w1 (lits_own (T := tyStr) (D := fun _ => True) (e := 9) (b := p12) [[Value.string (⟨#[50, 50, 48]⟩)], [Value.string (itoaS o.id)]] (xs := [⟨#[50, 50, 48]⟩, itoaS o.id]) hw1 Zh rfl (by simp) trivial ⟨⟨rfl, (okS_small (by decide))⟩, ⟨rfl, itoa_ok i1⟩, trivial⟩) (by simp)).mono fun e w2 ⟨u, h1, h2, h3⟩ => seg_out h1 h2 h3) fun v13 wa13 wb13 hm13 hl13 hR13 => ?_
 obtain ⟨A13, c13, rfl, hs13⟩ := hR13
 refine Ze ?_
 refine t_gr (Q := fun _ _ _ => False) ?_ t_nil
 refine x_call (R := fun v wa wb => ∃ A c, v = .agg #[.string (⟨#[76, 73, 78]⟩), .slice A 3 c] ∧ sliceRd (tySlice tyStr) (fun b => wa.heap.size ≤ b) wb (.slice A 3 c) [[itoaS 1], [⟨#[]⟩], [recT o.src o.num, ⟨#[83, 82, 86]⟩]]) rfl rfl rfl Tryz.func131 Zk rfl (fun w1 hw1 => (c_line 1 (o.src, o.num) w1 ⟨by decide, by unfold in64; decide⟩ ⟨n3, i3⟩ ⟨n4, i4⟩).mono fun e w2 ⟨u, h1, h2, h3⟩ => seg_out h1 h2 h3) fun v16 wa16 wb16 hm16 hl16 hR16 => ?_
 obtain ⟨A16, c16, rfl, hs16⟩ := hR16
 refine Ze ?_
 refine t_flt (Q := fun _ _ _ => False) ?_
 refine x_callv rfl rfl rfl Tryz.func73 Zk rfl (fun w1 hw1 => c_Dec o.copies w1 n5 i5) ?_
 refine Ze ?_
 refine t_gr (Q := fun _ _ _ => False) ?_ t_nil
 refine x_call (R := fun v wa wb => ∃ A c, v = .agg #[.string (⟨#[81, 84, 89]⟩), .slice A 1 c] ∧ sliceRd (tySlice tyStr) (fun b => wa.heap.size ≤ b) wb (.slice A 1 c) [[⟨#[50, 49]⟩, itoaS o.copies]]) rfl rfl rfl Tryz.func132 Zk rfl (fun w1 hw1 => (c_pair ⟨#[81, 84, 89]⟩ ⟨#[50, 49]⟩ (itoaS o.copies) w1 (okS_small (by decide)) (itoa_ok i5)).mono fun e w2 ⟨u, h1, h2, h3⟩ => seg_out h1 h2 h3) fun v20 wa20 wb20 hm20 hl20 hR20 => ?_
 obtain ⟨A20, c20, rfl, hs20⟩ := hR20
 refine Ze ?_
 refine t_flt (Q := fun _ _ _ => False) ?_
 refine x_callv rfl rfl rfl Tryz.func73 Zk rfl (fun w1 hw1 => c_Dec o.price w1 n6 i6) ?_
 refine Ze ?_
 refine t_gr (Q := fun _ _ _ => False) ?_ t_nil
 refine x_call (R := fun v wa wb => ∃ A c, v = .agg #[.string (⟨#[80, 82, 73]⟩), .slice A 1 c] ∧ sliceRd (tySlice tyStr) (fun b => wa.heap.size ≤ b) wb (.slice A 1 c) [[⟨#[65, 65, 65]⟩, itoaS o.price]]) rfl rfl rfl Tryz.func132 Zk rfl (fun w1 hw1 => (c_pair ⟨#[80, 82, 73]⟩ ⟨#[65, 65, 65]⟩ (itoaS o.price) w1 (okS_small (by decide)) (itoa_ok i6)).mono fun e w2 ⟨u, h1, h2, h3⟩ => seg_out h1 h2 h3) fun v24 wa24 wb24 hm24 hl24 hR24 => ?_
 obtain ⟨A24, c24, rfl, hs24⟩ := hR24
 refine Ze ?_
 refine t_flt (Q := fun _ _ _ => False) ?_
 refine x_callv rfl rfl rfl Tryz.func73 Zk rfl (fun w1 hw1 => c_Dec o.fund w1 n2 i2) ?_
 refine Ze ?_
 refine t_gr (Q := fun _ _ _ => False) ?_ t_nil
 refine x_call (R := fun v wa wb => ∃ A c, v = .agg #[.string (⟨#[82, 70, 70]⟩), .slice A 1 c] ∧ sliceRd (tySlice tyStr) (fun b => wa.heap.size ≤ b) wb (.slice A 1 c) [[⟨#[66, 70, 78]⟩, itoaS o.fund]]) rfl rfl rfl Tryz.func132 Zk rfl (fun w1 hw1 => (c_pair ⟨#[82, 70, 70]⟩ ⟨#[66, 70, 78]⟩ (itoaS o.fund) w1 (okS_small (by decide)) (itoa_ok i2)).mono fun e w2 ⟨u, h1, h2, h3⟩ => seg_out h1 h2 h3) fun v28 wa28 wb28 hm28 hl28 hR28 => ?_
 obtain ⟨A28, c28, rfl, hs28⟩ := hR28
 refine Ze ?_
 refine t_gr (Q := fun _ _ _ => False) ?_ t_nil
 refine x_call (R := fun v wa wb => ∃ A c, v = .agg #[.string (⟨#[85, 78, 84]⟩), .slice A 2 c] ∧ sliceRd (tySlice tyStr) (fun b => wa.heap.size ≤ b) wb (.slice A 2 c) [[⟨#[55]⟩], [⟨#[49]⟩]]) rfl rfl rfl Tryz.func130 Zk rfl (fun w1 hw1 => (c_one (es := [⟨#[55]⟩, ⟨#[49]⟩]) (D := fun _ => True) ⟨#[85, 78, 84]⟩ w1 (lits_own (T := tyStr) (D := fun _ => True) (e := 9) (b := p29) [[Value.string (⟨#[55]⟩)], [Value.string (⟨#[49]⟩)]] (xs := [⟨#[55]⟩, ⟨#[49]⟩]) hw1 Zh rfl (by simp) trivial ⟨⟨rfl, (okS_small (by decide))⟩, ⟨rfl, (okS_small (by decide))⟩, trivial⟩) (by simp)).mono fun e w2 ⟨u, h1, h2, h3⟩ => seg_out h1 h2 h3) fun v30 wa30 wb30 hm30 hl30 hR30 => ?_
 obtain ⟨A30, c30, rfl, hs30⟩ := hR30
 refine Ze ?_
 refine t_gr (Q := fun _ _ _ => False) ?_ t_nil
 refine x_buildSliceL (cs := ([[Value.string (⟨#[85, 78, 72]⟩), .slice A8 2 c8], [Value.string (⟨#[66, 71, 77]⟩), .slice A13 2 c13], [Value.string (⟨#[76, 73, 78]⟩), .slice A16 3 c16], [Value.string (⟨#[81, 84, 89]⟩), .slice A20 1 c20], [Value.string (⟨#[80, 82, 73]⟩), .slice A24 1 c24], [Value.string (⟨#[82, 70, 70]⟩), .slice A28 1 c28], [Value.string (⟨#[85, 78, 84]⟩), .slice A30 2 c30]] : List (List Value)).flatten) rfl rfl rfl u56 sz134 zr134 rfl rfl rfl ?_
 intro p31
 refine Ze ?_
 refine t_flt (Q := fun _ _ _ => False) ?_
 refine Xa ?_
 refine Ze ?_
 refine t_done ?_
 refine Ze (Zt (w_ret ?_))
 refine ret1 rfl rfl (fun w' hm => ?_)
 rw [show orderR o = orderX o from by unfold orderR; rw [if_pos hw, orderP_X (wrO_nn hwr)]]
 exact ⟨_, rfl, hm.base (by simp), RdAll.rd (e := 134) (css := [[Value.string (⟨#[85, 78, 72]⟩), .slice A8 2 c8], [Value.string (⟨#[66, 71, 77]⟩), .slice A13 2 c13], [Value.string (⟨#[76, 73, 78]⟩), .slice A16 3 c16], [Value.string (⟨#[81, 84, 89]⟩), .slice A20 1 c20], [Value.string (⟨#[80, 82, 73]⟩), .slice A24 1 c24], [Value.string (⟨#[82, 70, 70]⟩), .slice A28 1 c28], [Value.string (⟨#[85, 78, 84]⟩), .slice A30 2 c30]]) (xs := orderX o) (.cons (tySeg_mk (x := ⟨⟨#[85, 78, 72]⟩, [[⟨#[49]⟩], [⟨#[79, 82, 68, 69, 82, 83]⟩, ⟨#[68]⟩, ⟨#[57, 54, 65]⟩, ⟨#[85, 78]⟩]]⟩) rfl (show (3 : Nat) ≤ 9223372036854775807 by decide) (hs8.keep (Kept.made hm Zh hm8 (hm8.base (by simp)).size))) (.cons (tySeg_mk (x := ⟨⟨#[66, 71, 77]⟩, [[⟨#[50, 50, 48]⟩], [itoaS o.id]]⟩) rfl (show (3 : Nat) ≤ 9223372036854775807 by decide) (hs13.keep (Kept.made hm Zh hm13 (hm13.base (by simp)).size))) (.cons (tySeg_mk (x := ⟨⟨#[76, 73, 78]⟩, [[itoaS 1], [⟨#[]⟩], [recT o.src o.num, ⟨#[83, 82, 86]⟩]]⟩) rfl (show (3 : Nat) ≤ 9223372036854775807 by decide) (hs16.keep (Kept.made hm Zh hm16 (hm16.base (by simp)).size))) (.cons (tySeg_mk (x := ⟨⟨#[81, 84, 89]⟩, [[⟨#[50, 49]⟩, itoaS o.copies]]⟩) rfl (show (3 : Nat) ≤ 9223372036854775807 by decide) (hs20.keep (Kept.made hm Zh hm20 (hm20.base (by simp)).size))) (.cons (tySeg_mk (x := ⟨⟨#[80, 82, 73]⟩, [[⟨#[65, 65, 65]⟩, itoaS o.price]]⟩) rfl (show (3 : Nat) ≤ 9223372036854775807 by decide) (hs24.keep (Kept.made hm Zh hm24 (hm24.base (by simp)).size))) (.cons (tySeg_mk (x := ⟨⟨#[82, 70, 70]⟩, [[⟨#[66, 70, 78]⟩, itoaS o.fund]]⟩) rfl (show (3 : Nat) ≤ 9223372036854775807 by decide) (hs28.keep (Kept.made hm Zh hm28 (hm28.base (by simp)).size))) (.cons (tySeg_mk (x := ⟨⟨#[85, 78, 84]⟩, [[⟨#[55]⟩], [⟨#[49]⟩]]⟩) rfl (show (3 : Nat) ≤ 9223372036854775807 by decide) (hs30.keep (Kept.made hm Zh hm30 (hm30.base (by simp)).size))) (.nil)))))))) hm (.head _) Zh rfl (show (7 : Nat) ≤ maxLen by decide), fun h => absurd (show (7 : Nat) = 0 from h) (by decide)⟩
open Go.RowKit Go.PK
theorem c_text {v : Value} {l : List Seg} {D : Nat → Prop} (n e c : Nat) (w : World) (hl : sliceRd tySeg D w v l) :
  Calls Tryz.prog 109 #[v, .int .i64 (n : Nat), .int .i64 (e : Nat), .int .i64 (c : Nat)] w fun ee w' => ee = .returned (.string (txt l n e c)) ∧ Later w w' := by
 obtain ⟨A, cp, rfl, hlc, hmx, _⟩ := id hl
 obtain ⟨sb, so, EA, ec, hS⟩ := seg_there hl n
 obtain ⟨eb, eo, FA, fc, hE⟩ := els_there (K := n < l.length) (fun h => (hS h).2.2.2.2.2) e
 refine enter (vs := [Value.slice A l.length cp, .int .i64 (n : Nat), .int .i64 (e : Nat), .int .i64 (c : Nat)]) Tryz.func109 rfl Tryz.ntmps109 rfl ?_
 refine Zs (Zr ?_)
 refine Xa ?_
 refine Ze (Zt (Zs (Zs (Zr ?_))))
 refine Xm ?_
 refine Xm ?_
 refine Xv rfl (v_len_slice u56 rfl) ?_
 refine Xb rfl (v_geq rfl rfl) fun b12 hb12 => ?_
 refine Xm ?_
 refine Xg ?_
 refine Xg ?_
 refine Xg ?_
 refine Xi rfl rfl rfl (fun hg0 => by subst hg0; (try simp only [Qy]); have h1 : n < l.length := (by have h0 := hb12.symm; simp only [decide_eq_false_iff_not] at h0; omega); exact v_indexAddr u56 sz134 (congrArg (fun A => some (Value.slice A l.length cp)) (hS h1).1) rfl (h1) rfl) ?_
 refine Xi rfl rfl rfl (fun hg0 => by subst hg0; (try simp only [Qy]); exact v_fieldAddr u134 rfl sz132 (by decide) rfl rfl) ?_
 refine Xi rfl rfl rfl (fun hg0 => by subst hg0; (try simp only [Qy]); have h1 : n < l.length := (by have h0 := hb12.symm; simp only [decide_eq_false_iff_not] at h0; omega); exact v_load u132 rfl rfl (at_ro (.head _) trivial (hS h1).2.2.2.1)) ?_
 refine Xi rfl rfl rfl (fun hg0 => by subst hg0; (try simp only [Qy]); exact v_len_slice u132 rfl) ?_
 refine Xj rfl rfl rfl (fun hg0 => by subst hg0; (try simp only [Qy]); exact v_geq rfl rfl) fun b21 hb21 => ?_
 refine Xb rfl (v_or rfl rfl) fun b22 hb22 => ?_
 refine Xm ?_
 refine Xg ?_
 refine Xg ?_
 refine Xg ?_
 refine Xi rfl rfl rfl (fun hg0 => by subst hg0; (try simp only [Qy]); have h12 : n < l.length ∧ e < (segD l n).els.length := (by have h0 := hb22.symm; simp only [hb12, hb21, Bool.or_eq_false_iff, decide_eq_false_iff_not] at h0; omega); exact v_indexAddr u56 sz134 (congrArg (fun A => some (Value.slice A l.length cp)) (hS h12.1).1) rfl (h12.1) rfl) ?_
 refine Xi rfl rfl rfl (fun hg0 => by subst hg0; (try simp only [Qy]); exact v_fieldAddr u134 rfl sz132 (by decide) rfl rfl) ?_
 refine Xi rfl rfl rfl (fun hg0 => by subst hg0; (try simp only [Qy]); have h12 : n < l.length ∧ e < (segD l n).els.length := (by have h0 := hb22.symm; simp only [hb12, hb21, Bool.or_eq_false_iff, decide_eq_false_iff_not] at h0; omega); exact v_load u132 rfl rfl (at_ro (.head _) trivial (hS h12.1).2.2.2.1)) ?_
 refine Xg ?_
 refine Xi rfl rfl rfl (fun hg0 => by subst hg0; (try simp only [Qy]); have h12 : n < l.length ∧ e < (segD l n).els.length := (by have h0 := hb22.symm; simp only [hb12, hb21, Bool.or_eq_false_iff, decide_eq_false_iff_not] at h0; omega); exact v_indexAddr u132 sz78 (congrArg (fun A => some (Value.slice A (segD l n).els.length ec)) (hE h12.1 h12.2).1) rfl (h12.2) rfl) ?_
 refine Xi rfl rfl rfl (fun hg0 => by subst hg0; (try simp only [Qy]); have h12 : n < l.length ∧ e < (segD l n).els.length := (by have h0 := hb22.symm; simp only [hb12, hb21, Bool.or_eq_false_iff, decide_eq_false_iff_not] at h0; omega); exact v_load u78 rfl rfl (at_ro (.head _) trivial (by rw [Nat.mul_one]; exact (hE h12.1 h12.2).2.2.1))) ?_
 refine Xi rfl rfl rfl (fun hg0 => by subst hg0; (try simp only [Qy]); exact v_len_slice u78 rfl) ?_
 refine Xj rfl rfl rfl (fun hg0 => by subst hg0; (try simp only [Qy]); exact v_geq rfl rfl) fun b34 hb34 => ?_
 refine Xb rfl (v_or rfl rfl) fun b35 hb35 => ?_
 refine Ze (Zt ?_)
 refine w_cond rfl (fun hc35 => ?_) (fun hc35 => ?_)
 ·have hno : ¬(n < l.length ∧ e < (segD l n).els.length ∧ c < (elsD (segD l n).els e).length) := fun h => by
   simp only [hb35, hb34, hb22, hb21, hb12, Bool.or_eq_true, decide_eq_true_eq] at hc35
   omega
  refine Zs (Zr ?_)
  refine Xa ?_
  refine Ze (Zt (w_ret (t_ret ?_)))
  refine ret1 rfl rfl (fun w' hm => ⟨?_, hm.base (by simp)⟩)
  unfold txt; rw [txO_out hno]; rfl
 have hin : n < l.length ∧ e < (segD l n).els.length ∧ c < (elsD (segD l n).els e).length := by
  simp only [hb35, hb34, hb22, hb21, hb12, Bool.or_eq_false_iff, decide_eq_false_iff_not] at hc35
  omega
 obtain ⟨k1, k2, k3⟩ := hin
 obtain ⟨s1, _, _, s4, _, s6⟩ := hS k1
 obtain ⟨e1, _, e3, e4⟩ := hE k1 k2
 obtain ⟨fb, fo, f1, _, f3, _⟩ := s_at e4 k3
 refine w_skip (Zt (Zs (Zr ?_)))
 refine Xm ?_
 refine Xm ?_
 refine Xv rfl (v_indexAddr u56 sz134 (congrArg (fun A => some (Value.slice A l.length cp)) s1) rfl Zo rfl) ?_
 refine Xv rfl (v_fieldAddr u134 rfl sz132 (by decide) rfl rfl) ?_
 refine Xv rfl (v_load u132 rfl rfl (at_ro (.head _) trivial s4)) ?_
 refine Xm ?_
 refine Xv rfl (v_indexAddr u132 sz78 (congrArg (fun A => some (Value.slice A (segD l n).els.length ec)) e1) rfl Zo rfl) ?_
 refine Xv rfl (v_load u78 rfl rfl (at_ro (.head _) trivial (by rw [Nat.mul_one]; exact e3))) ?_
 refine Xm ?_
 refine Xv rfl (v_indexAddr u78 sz9 (congrArg (fun A => some (Value.slice A (elsD (segD l n).els e).length fc)) f1) rfl Zo rfl) ?_
 refine Xv rfl (v_load u9 rfl rfl (at_ro (.head _) trivial (by rw [Nat.mul_one]; exact f3))) ?_
 refine Xa ?_
 refine Ze (Zt (w_ret ?_))
 refine ret1 rfl rfl (fun w' hm => ⟨?_, hm.base (by simp)⟩)
 unfold txt; rw [txO_in k1 k2 k3]; rfl
open Go.RowKit Go.PK
theorem c_Atoi (s : ByteArray) (w : World) (hs : s.size ≤ 281474976710656) (hL : LD w) :
  Calls Tryz.prog 158 #[.string s] w fun e w' => ∃ n ev b, e = .returned (.tuple #[.int .i64 n, ev]) ∧ Later w w' ∧ isIface ev b ∧ (b = false → Lib.atoiAll (bl s) = .ok n) ∧ (b = true → ∀ v, Lib.atoiAll (bl s) ≠ .ok v) := by
 obtain ⟨_, _, ⟨tp, p, h1⟩, ⟨tp2, p2, h2⟩⟩ := hL
 rcases hq : Lib.atoiAll s.data.toList with v | _ | _
 ·refine (Tryz.strconv_Atoi_ok s (by omega) v hq w).mono fun e w' ⟨h3, h4⟩ => ⟨v, .nilIface, false, h3, ?_, .inl ⟨rfl, rfl⟩, fun _ => hq, fun h => by cases h⟩
  rcases h4 with rfl | ⟨t, rfl⟩
  ·exact Later.refl _
  exact Lib.bytesWorld_below w _ t
 ·exact (Any.strconv_Atoi_syntax_var Tryz.laysC172 s hs hq tp p w h1).mono fun e w' ⟨N, h3, _, _, h4⟩ => ⟨_, _, true, h3, h4, .inr ⟨⟨_, _, rfl⟩, rfl⟩, (fun h => by cases h), (fun _ v h => by rw [show bl s = s.data.toList from rfl, hq] at h; cases h)⟩
 exact (Tryz.strconv_Atoi_range_var s hs hq tp2 p2 w h2).mono fun e w' ⟨N, h3, _, _, h4⟩ => ⟨_, _, true, h3, h4, .inr ⟨⟨_, _, rfl⟩, rfl⟩, (fun h => by cases h), (fun _ v h => by rw [show bl s = s.data.toList from rfl, hq] at h; cases h)⟩
theorem c_Cut (s : ByteArray) (w : World) (hs : s.size ≤ 2000000000) (hL : LD w) :
  Calls Tryz.prog 159 #[.string s, .string ⟨#[46]⟩] w fun e w' => e = .returned (.tuple #[.string (cutD s).1, .string (cutD s).2.1, .bool (cutD s).2.2]) ∧ Later w w' := by
 obtain ⟨_, ⟨m, hm⟩, _⟩ := hL
 refine (Tryz.strings_Cut s ⟨#[46]⟩ m w (by omega) hm).mono fun e w' ⟨h1, n, h2⟩ => ⟨h1, ?_⟩
 rw [h2]; exact ⟨rfl, rfl, rfl, Nat.le_refl _, fun _ _ => rfl⟩
theorem readP_in (s : ByteArray) : in64 (readP s) := by
 unfold readP
 split
 ·rename_i v h
  split
  ·exact Lib.atoiAll_bounds h
  unfold in64; decide
 unfold in64; decide
theorem cutD_sz (s : ByteArray) : (cutD s).1.size ≤ s.size ∧ (cutD s).2.1.size ≤ s.size := by
 have e : s.size = (bl s).length := (bl_len s).symm
 unfold cutD Lib.cut
 split
 ·constructor
  ·show (List.toArray _).size ≤ _; rw [List.size_toArray, e]; exact List.length_take_le' _ _
  show (List.toArray _).size ≤ _; rw [List.size_toArray, e, List.length_drop]; omega
 constructor
 ·show (List.toArray _).size ≤ _; rw [List.size_toArray, e]; exact Nat.le_refl _
 exact Nat.zero_le _
def bigO (l : List Seg) : Prop := ∀ x ∈ l, ∀ y ∈ x.els, ∀ s ∈ y, s.size ≤ 2000000000
theorem txt_sz {l : List Seg} (h : bigO l) (n e c : Nat) : (txt l n e c).size ≤ 2000000000 := by
 unfold txt
 by_cases hin : n < l.length ∧ e < (segD l n).els.length ∧ c < (elsD (segD l n).els e).length
 ·obtain ⟨k1, k2, k3⟩ := hin
  rw [txO_in k1 k2 k3]
  refine h (segD l n) ?_ (elsD (segD l n).els e) ?_ _ (List.getElem_mem k3)
  ·unfold segD; rw [getD_at k1]; exact List.getElem_mem k1
  unfold elsD; rw [getD_at k2]; exact List.getElem_mem k2
 rw [txO_out hin]; exact Nat.zero_le _
theorem c_read (s : ByteArray) (w : World) (hs : s.size ≤ 281474976710656) (hL : LD w) :
  Calls Tryz.prog 108 #[.string s] w fun e w' => e = .returned (.int .i64 (readP s)) ∧ Later w w' := by
 refine enter (vs := [.string s]) Tryz.func108 rfl Tryz.ntmps108 rfl ?_
 refine Zs (Zr ?_)
 refine Xa ?_
 refine Ze (Zt (Zs (Zr ?_)))
 refine Xm ?_
 refine x_call (R := fun v wa wb => ∃ n ev b, v = .tuple #[.int .i64 n, ev] ∧ isIface ev b ∧ (b = false → Lib.atoiAll (bl s) = .ok n) ∧ (b = true → ∀ v, Lib.atoiAll (bl s) ≠ .ok v)) rfl rfl rfl Tryz.func158 Zk rfl (fun w1 hw1 => (c_Atoi s w1 hs (hL.later (hw1.base (by simp)))).mono fun e w2 ⟨n, ev, b, h1, h2, h3⟩ => ⟨_, h1, h2, n, ev, b, rfl, h3⟩) fun v7 wa7 wb7 hm7 hl7 hR7 => ?_
 obtain ⟨n, ev, b0, rfl, hi11, h1, h2⟩ := hR7
 refine Xm ?_
 refine Xv rfl (v_extract rfl rfl) ?_
 refine Xv rfl (v_extract rfl rfl) ?_
 refine Xa ?_
 refine Xa ?_
 refine Ze (Zt (Zs (Zs (Zr ?_))))
 refine Xm ?_
 refine Xb rfl (v_ine u175 rfl rfl hi11) fun b11 hb11 => ?_
 refine Xm ?_
 refine Xg ?_
 refine Xi rfl rfl rfl (fun hg0 => by subst hg0; (try simp only [Qy]); exact v_len_str u9 rfl) ?_
 refine Xj rfl rfl rfl (fun hg0 => by subst hg0; (try simp only [Qy]); exact v_gtr rfl rfl) fun b15 hb15 => ?_
 refine Xb rfl (v_or rfl rfl) fun b16 hb16 => ?_
 refine Ze (Zt ?_)
 refine w_cond rfl (fun hc16 => ?_) (fun hc16 => ?_)
 ·have hneg : readP s = -1 := by
   unfold readP
   split
   ·rename_i v hv
    rw [if_neg (fun h18 => ?_)]
    rw [hb16, hb15] at hc16
    rcases Bool.or_eq_true _ _ ▸ hc16 with h | h
    ·exact h2 (hb11.symm.trans h) v hv
    have := of_decide_eq_true h; omega
   rfl
  refine Zs (Zr ?_)
  refine Xa ?_
  refine Ze (Zt (w_ret (t_ret ?_)))
  refine ret1 rfl rfl (fun w' hm => ⟨?_, hm.base (by simp)⟩)
  rw [hneg]
 have hyes : readP s = n := by
  rw [hb16, hb15] at hc16
  obtain ⟨k1, k2⟩ := Bool.or_eq_false_iff.1 hc16
  have k3 := of_decide_eq_false k2
  unfold readP
  rw [h1 (hb11.symm.trans k1)]
  dsimp only
  rw [if_pos (by omega)]
 refine w_skip (Zt (Zs (Zr ?_)))
 refine Xm ?_
 refine Xa ?_
 refine Ze (Zt (w_ret ?_))
 refine ret1 rfl rfl (fun w' hm => ⟨?_, hm.base (by simp)⟩)
 rw [hyes]; rfl
theorem c_erec (s : ByteArray) (w : World) (hs : s.size ≤ 2000000000) (hL : LD w) :
  Calls Tryz.prog 110 #[.string s] w fun e w' => e = .returned (.agg #[.int .i64 (recS s).1, .int .i64 (recS s).2]) ∧ Later w w' := by
 refine enter (vs := [.string s]) Tryz.func110 rfl Tryz.ntmps110 rfl ?_
 refine Zs (Zr ?_)
 refine x_alloc rfl rfl rfl zr23 ?_
 intro p2
 refine Ze (Zt (Zs (Zr ?_)))
 refine Xm ?_
 refine x_callv rfl rfl rfl Tryz.func159 Zk rfl (fun w1 hw1 => c_Cut s w1 hs (hL.later (hw1.base (by simp)))) ?_
 refine Xm ?_
 refine Xv rfl (v_extract rfl rfl) ?_
 refine Xv rfl (v_extract rfl rfl) ?_
 refine Xb rfl (v_extract rfl rfl) fun b11 hb11 => ?_
 refine Xa ?_
 refine Xa ?_
 refine Xa ?_
 refine Ze (Zt (Zs (Zr ?_)))
 refine Xm ?_
 refine x_callv rfl rfl rfl Tryz.func108 Zk rfl (fun w1 hw1 => c_read (cutD s).1 w1 (by have := (cutD_sz s).1; omega) (hL.later (hw1.base (by simp)))) ?_
 refine Xm ?_
 refine x_callv rfl rfl rfl Tryz.func108 Zk rfl (fun w1 hw1 => c_read (cutD s).2.1 w1 (by have := (cutD_sz s).2; omega) (hL.later (hw1.base (by simp)))) ?_
 refine Xv rfl (v_buildL (places := [(0, 1), (1, 1)]) u23 zr23 Zk rfl rfl) ?_
 refine x_store0 [] rfl rfl rfl rfl sz23 rfl rfl ?_
 refine Ze (Zt (w_ret ?_))
 refine retc (cs := #[.int .i64 (recS s).1, .int .i64 (recS s).2]) rfl rfl (.head _) u23 rfl sz23 (fun w' hm => ⟨rfl, hm.base (by simp)⟩)
theorem c_SEq {u v : Value} {xs ys : List ByteArray} {D1 D2 : Nat → Prop} (w : World) (h1s : sliceRd tyStr D1 w u xs) (h2s : sliceRd tyStr D2 w v ys) :
  Calls Tryz.prog 163 #[u, v] w fun e w' => e = .returned (.bool (decide (xs = ys))) ∧ Later w w' := by
 obtain ⟨A1, c1, rfl, hl1, hm1, _⟩ := id h1s
 obtain ⟨A2, c2, rfl, hl2, hm2, _⟩ := id h2s
 refine enter (vs := [.slice A1 xs.length c1, .slice A2 ys.length c2]) Tryz.func163 rfl Tryz.ntmps163 rfl ?_
 refine Zs (Zr ?_)
 refine Xa ?_
 refine Ze (Zt (Zs (Zs (Zr ?_))))
 refine Xm ?_
 refine Xv rfl (v_len_slice u78 rfl) ?_
 refine Xm ?_
 refine Xv rfl (v_len_slice u78 rfl) ?_
 refine Xb rfl (v_neq rfl rfl) fun b10 hb10 => ?_
 refine Ze (Zt ?_)
 refine w_cond rfl (fun hc10 => ?_) (fun hc10 => ?_)
 ·simp only [hb10, Qz, ne_eq] at hc10
  have hne : xs ≠ ys := fun h => by rw [h] at hc10; exact hc10 rfl
  refine Zs (Zr ?_)
  refine Xa ?_
  refine Ze (Zt (w_ret (t_ret ?_)))
  refine ret1 rfl rfl (fun w' hm => ⟨?_, hm.base (by simp)⟩)
  rw [decide_eq_false (hne)]
 simp only [hb10, Qz, ne_eq] at hc10
 have hlen : xs.length = ys.length := by omega
 refine w_skip (Zt (Zs (Zs (Zr ?_))))
 refine Xm ?_
 refine Xv rfl (v_len_slice u78 rfl) ?_
 refine Xm ?_
 refine Ze (Zt (w_block ?_))
 refine w_loop (σ := Nat) (fun x => x ≤ xs.length ∧ xs.take x = ys.take x) (fun x => [(0, Value.slice A1 xs.length c1), (1, Value.slice A2 ys.length c2), (11, Value.slice A1 xs.length c1), (12, Value.int .i64 (xs.length : Nat)), (13, Value.int .i64 (x : Nat))]) (fun x => []) (fun x => [(w, fun _ => True)]) (fun x => xs.length - x) (0) (⟨Nat.zero_le _, rfl⟩) (l_start Zu (fun _ h => h)) ?_
 rintro k ⟨hk, ht⟩
 refine w_state ([(0, Value.slice A1 xs.length c1), (1, Value.slice A2 ys.length c2), (11, Value.slice A1 xs.length c1), (12, Value.int .i64 (xs.length : Nat)), (13, Value.int .i64 (k : Nat))]) ([]) ([(w, fun _ => True)]) ?_
 refine Zs (Zr ?_)
 refine Xb rfl (v_lss rfl rfl) fun b14 hb14 => ?_
 refine Ze (Zt (Zs ?_))
 refine w_cond rfl (fun hc14 => ?_) (fun hc14 => ?_)
 ·simp only [hb14, Qz, ne_eq] at hc14
  have h1 : k < xs.length := by omega
  have h2 : k < ys.length := by omega
  obtain ⟨b1, o1, hA1, _, t1, _⟩ := s_at h1s h1
  obtain ⟨b2, o2, hA2, _, t2, _⟩ := s_at h2s h2
  refine w_skip (Zt (Zs (w_block (Zs (Zr ?_)))))
  refine Xm ?_
  refine Xa ?_
  refine Ze (Zt (Zs ?_))
  refine rg_draw 9 [(true, 0), (true, 1), (true, 2), (true, 3), (true, 4), (true, 5), (true, 6), (true, 7), (true, 8)] Zk Zk ?_
  refine Xm ?_
  refine Xm ?_
  refine Xv rfl (v_indexAddr u78 sz9 (congrArg (fun A => some (Value.slice A xs.length c1)) hA1) rfl Zo rfl) ?_
  refine Xv rfl (v_load u9 rfl rfl (at_ro (.head _) trivial (by rw [Nat.mul_one]; exact t1))) ?_
  refine Xm ?_
  refine Xm ?_
  refine Xv rfl (v_indexAddr u78 sz9 (congrArg (fun A => some (Value.slice A ys.length c2)) hA2) rfl Zo rfl) ?_
  refine Xv rfl (v_load u9 rfl rfl (at_ro (.head _) trivial (by rw [Nat.mul_one]; exact t2))) ?_
  refine Xb rfl (v_sneq rfl rfl) fun b24 hb24 => ?_
  refine Ze (Zt ?_)
  refine w_cond rfl (fun hc24 => ?_) (fun hc24 => ?_)
  ·simp only [hb24, Qz, ne_eq] at hc24
   have hne : xs ≠ ys := ne_at h1 h2 hc24
   refine Zs (Zr ?_)
   refine Xa ?_
   refine Ze (Zt (w_ret (b_ret (t_ret (t_ret (b_ret (t_ret ?_)))))))
   refine ret1 rfl rfl (fun w' hm => ⟨?_, hm.base (by simp)⟩)
   rw [decide_eq_false (hne)]
  simp only [hb24, Qz, ne_eq] at hc24
  refine w_skip (b_norm (Zt (Zr ?_)))
  refine Xv rfl (v_addi rfl rfl rfl Zo) ?_
  refine Xm ?_
  refine Ze ?_
  exact l_norm (k + 1) ⟨by omega, take_eq_succ h1 h2 ht hc24⟩ (by omega) Zu (fun _ h => h)
 simp only [hb14, Qz, ne_eq] at hc14
 obtain rfl : k = xs.length := by omega
 refine w_exit ?_
 refine t_exit ?_
 refine t_exit ?_
 refine b_hit ?_
 refine Zt (Zs (Zr ?_))
 refine Xa ?_
 refine Ze (Zt (w_ret ?_))
 refine ret1 rfl rfl (fun w' hm => ⟨?_, hm.base (by simp)⟩)
 rw [decide_eq_true (take_all hlen ht)]
theorem c_EF2 {u v : Value} {xs ys : List (List ByteArray)} {D1 D2 : Nat → Prop} (w : World) (h1s : sliceRd (tySlice tyStr) D1 w u xs) (h2s : sliceRd (tySlice tyStr) D2 w v ys) :
  Calls Tryz.prog 162 #[u, v, .func (.func 163) #[] #[]] w fun e w' => e = .returned (.bool (decide (xs = ys))) ∧ Later w w' := by
 obtain ⟨A1, c1, rfl, hl1, hm1, _⟩ := id h1s
 obtain ⟨A2, c2, rfl, hl2, hm2, _⟩ := id h2s
 refine enter (vs := [.slice A1 xs.length c1, .slice A2 ys.length c2, .func (.func 163) #[] #[]]) Tryz.func162 rfl Tryz.ntmps162 rfl ?_
 refine Zs (Zr ?_)
 refine Xa ?_
 refine Ze (Zt (Zs (Zs (Zr ?_))))
 refine Xm ?_
 refine Xv rfl (v_len_slice u132 rfl) ?_
 refine Xm ?_
 refine Xv rfl (v_len_slice u132 rfl) ?_
 refine Xb rfl (v_neq rfl rfl) fun b14 hb14 => ?_
 refine Ze (Zt ?_)
 refine w_cond rfl (fun hc14 => ?_) (fun hc14 => ?_)
 ·simp only [hb14, Qz, ne_eq] at hc14
  have hne : xs ≠ ys := fun h => by rw [h] at hc14; exact hc14 rfl
  refine Zs (Zr ?_)
  refine Xa ?_
  refine Ze (Zt (w_ret (t_ret ?_)))
  refine ret1 rfl rfl (fun w' hm => ⟨?_, hm.base (by simp)⟩)
  rw [decide_eq_false (hne)]
 simp only [hb14, Qz, ne_eq] at hc14
 have hlen : xs.length = ys.length := by omega
 refine w_skip (Zt (Zs (Zs (Zr ?_))))
 refine Xm ?_
 refine Xv rfl (v_len_slice u132 rfl) ?_
 refine Xm ?_
 refine Ze (Zt (w_block ?_))
 refine w_loop (σ := Nat) (fun x => x ≤ xs.length ∧ xs.take x = ys.take x) (fun x => [(0, Value.slice A1 xs.length c1), (1, Value.slice A2 ys.length c2), (2, Value.func (.func 163) #[] #[]), (15, Value.slice A1 xs.length c1), (16, Value.int .i64 (xs.length : Nat)), (17, Value.int .i64 (x : Nat))]) (fun x => []) (fun x => [(w, fun _ => True)]) (fun x => xs.length - x) (0) (⟨Nat.zero_le _, rfl⟩) (l_start Zu (fun _ h => h)) ?_
 rintro k ⟨hk, ht⟩
 refine w_state ([(0, Value.slice A1 xs.length c1), (1, Value.slice A2 ys.length c2), (2, Value.func (.func 163) #[] #[]), (15, Value.slice A1 xs.length c1), (16, Value.int .i64 (xs.length : Nat)), (17, Value.int .i64 (k : Nat))]) ([]) ([(w, fun _ => True)]) ?_
 refine Zs (Zr ?_)
 refine Xb rfl (v_lss rfl rfl) fun b18 hb18 => ?_
 refine Ze (Zt (Zs ?_))
 refine w_cond rfl (fun hc18 => ?_) (fun hc18 => ?_)
 ·simp only [hb18, Qz, ne_eq] at hc18
  have h1 : k < xs.length := by omega
  have h2 : k < ys.length := by omega
  obtain ⟨b1, o1, u1, hA1, _, t1, r1⟩ := sl_at h1s h1
  obtain ⟨b2, o2, u2, hA2, _, t2, r2⟩ := sl_at h2s h2
  obtain ⟨B1, d1, rfl, _⟩ := id r1
  obtain ⟨B2, d2, rfl, _⟩ := id r2
  refine w_skip (Zt (Zs (w_block (Zs (Zr ?_)))))
  refine Xm ?_
  refine Xv rfl (v_indexAddr u132 sz78 (congrArg (fun A => some (Value.slice A xs.length c1)) hA1) rfl Zo rfl) ?_
  refine Xv rfl (v_load u78 rfl rfl (at_ro (.head _) trivial (by rw [Nat.mul_one]; exact t1))) ?_
  refine Xa ?_
  refine Xa ?_
  refine Ze (Zt (Zs (Zr ?_)))
  refine Xm ?_
  refine Xm ?_
  refine Xv rfl (v_indexAddr u132 sz78 (congrArg (fun A => some (Value.slice A ys.length c2)) hA2) rfl Zo rfl) ?_
  refine Xv rfl (v_load u78 rfl rfl (at_ro (.head _) trivial (by rw [Nat.mul_one]; exact t2))) ?_
  refine Xa ?_
  refine Ze (Zt (Zs (Zr ?_)))
  refine Xm ?_
  refine Xm ?_
  refine Xm ?_
  refine x_clb rfl rfl rfl rfl Tryz.func163 Zk rfl (fun w1 hw1 => by exact calls_clp (c_SEq (xs := xs[k]) (ys := ys[k]) w1 (r1.keep (Kept.later (hw1.base (by simp)))) (r2.keep (Kept.later (hw1.base (by simp)))))) fun b29 hb29 => ?_
  refine Xb rfl (v_not rfl) fun b30 hb30 => ?_
  refine Ze (Zt ?_)
  refine w_cond rfl (fun hc30 => ?_) (fun hc30 => ?_)
  ·have hne : xs ≠ ys := ne_at h1 h2 (fun h => by rw [hb30, hb29, decide_eq_true h] at hc30; cases hc30)
   refine Zs (Zr ?_)
   refine Xa ?_
   refine Ze (Zt (w_ret (b_ret (t_ret (t_ret (b_ret (t_ret ?_)))))))
   refine ret1 rfl rfl (fun w' hm => ⟨?_, hm.base (by simp)⟩)
   rw [decide_eq_false (hne)]
  have heq : xs[k] = ys[k] := by
   rw [hb30, hb29] at hc30
   exact of_decide_eq_true (by simpa using hc30)
  refine w_skip (b_norm (Zt (Zr ?_)))
  refine Xv rfl (v_addi rfl rfl rfl Zo) ?_
  refine Xm ?_
  refine Ze ?_
  exact l_norm (k + 1) ⟨by omega, take_eq_succ h1 h2 ht heq⟩ (by omega) Zu (fun _ h => h)
 simp only [hb18, Qz, ne_eq] at hc18
 obtain rfl : k = xs.length := by omega
 refine w_exit ?_
 refine t_exit ?_
 refine t_exit ?_
 refine b_hit ?_
 refine Zt (Zs (Zr ?_))
 refine Xa ?_
 refine Ze (Zt (w_ret ?_))
 refine ret1 rfl rfl (fun w' hm => ⟨?_, hm.base (by simp)⟩)
 rw [decide_eq_true (take_all hlen ht)]
theorem c_same1 {u v : Value} {x y : Seg} {D1 D2 : Nat → Prop} (w : World) (h1s : sliceRd (tySlice tyStr) D1 w u x.els) (h2s : sliceRd (tySlice tyStr) D2 w v y.els) :
  Calls Tryz.prog 161 #[.agg #[.string x.tag, u], .agg #[.string y.tag, v]] w fun e w' => e = .returned (.bool (decide (x = y))) ∧ Later w w' := by
 refine enter (vs := [.agg #[.string x.tag, u], .agg #[.string y.tag, v]]) Tryz.func161 rfl Tryz.ntmps161 rfl ?_
 refine Zs (Zr ?_)
 refine x_box rfl rfl rfl rfl ?_
 intro p2
 refine x_box rfl rfl rfl rfl ?_
 intro p3
 refine Xa ?_
 refine Ze (Zt (Zs (Zr ?_)))
 refine Xv rfl (v_fieldAddr (off' := 0) u134 rfl sz9 (by decide) rfl rfl) ?_
 refine Xv rfl (v_load u9 rfl rfl (at_ownL (vs := [Value.string x.tag, u]) (.tail _ (.head _)) rfl)) ?_
 refine Xv rfl (v_fieldAddr (off' := 0) u134 rfl sz9 (by decide) rfl rfl) ?_
 refine Xv rfl (v_load u9 rfl rfl (at_ownL (vs := [Value.string y.tag, v]) (.head _) rfl)) ?_
 refine Xb rfl (v_seql rfl rfl) fun b9 hb9 => ?_
 refine Xm ?_
 refine Xi rfl rfl rfl (fun hg0 => by subst hg0; (try simp only [Qy]); exact v_fieldAddr (off' := 1) u134 rfl sz132 (by decide) rfl rfl) ?_
 refine Xi rfl rfl rfl (fun hg0 => by subst hg0; (try simp only [Qy]); exact v_load u132 rfl rfl (at_ownL (vs := [Value.string x.tag, u]) (.tail _ (.head _)) rfl)) ?_
 refine Xi rfl rfl rfl (fun hg0 => by subst hg0; (try simp only [Qy]); exact v_fieldAddr (off' := 1) u134 rfl sz132 (by decide) rfl rfl) ?_
 refine Xi rfl rfl rfl (fun hg0 => by subst hg0; (try simp only [Qy]); exact v_load u132 rfl rfl (at_ownL (vs := [Value.string y.tag, v]) (.head _) rfl)) ?_
 refine x_call_ifb [] rfl rfl rfl rfl rfl Tryz.func162 Zk (fun hg => by obtain ⟨hg0, _⟩ := hg; subst hg0; (try simp only [Qy]); refine ⟨_, rfl, ?_⟩; exact fun w1 hw1 => c_EF2 (xs := x.els) (ys := y.els) w1 (h1s.keep (Kept.later (hw1.base (by simp)))) (h2s.keep (Kept.later (hw1.base (by simp))))) fun b15 hb15 => ?_
 refine Xb rfl (v_and rfl rfl) fun b16 hb16 => ?_
 refine Xa ?_
 refine Ze (Zt (w_ret ?_))
 refine ret1 rfl rfl (fun w' hm => ⟨?_, hm.base (by simp)⟩)
 congr 3
 rw [hb16, hb15, hb9, Bool.eq_iff_iff]
 simp only [Bool.and_eq_true, decide_eq_true_eq]
 constructor
 ·rintro ⟨h1, h2⟩; exact seg_ext h1 h2
 rintro rfl; exact ⟨rfl, rfl⟩
theorem c_EF1 {u v : Value} {xs ys : List Seg} {D1 D2 : Nat → Prop} (w : World) (h1s : sliceRd tySeg D1 w u xs) (h2s : sliceRd tySeg D2 w v ys) :
  Calls Tryz.prog 160 #[u, v, .func (.func 161) #[] #[]] w fun e w' => e = .returned (.bool (decide (xs = ys))) ∧ Later w w' := by
 obtain ⟨A1, c1, rfl, hl1, hm1, _⟩ := id h1s
 obtain ⟨A2, c2, rfl, hl2, hm2, _⟩ := id h2s
 refine enter (vs := [.slice A1 xs.length c1, .slice A2 ys.length c2, .func (.func 161) #[] #[]]) Tryz.func160 rfl Tryz.ntmps160 rfl ?_
 refine Zs (Zr ?_)
 refine Xa ?_
 refine Ze (Zt (Zs (Zs (Zr ?_))))
 refine Xm ?_
 refine Xv rfl (v_len_slice u56 rfl) ?_
 refine Xm ?_
 refine Xv rfl (v_len_slice u56 rfl) ?_
 refine Xb rfl (v_neq rfl rfl) fun b14 hb14 => ?_
 refine Ze (Zt ?_)
 refine w_cond rfl (fun hc14 => ?_) (fun hc14 => ?_)
 ·simp only [hb14, Qz, ne_eq] at hc14
  have hne : xs ≠ ys := fun h => by rw [h] at hc14; exact hc14 rfl
  refine Zs (Zr ?_)
  refine Xa ?_
  refine Ze (Zt (w_ret (t_ret ?_)))
  refine ret1 rfl rfl (fun w' hm => ⟨?_, hm.base (by simp)⟩)
  rw [decide_eq_false (hne)]
 simp only [hb14, Qz, ne_eq] at hc14
 have hlen : xs.length = ys.length := by omega
 refine w_skip (Zt (Zs (Zs (Zr ?_))))
 refine Xm ?_
 refine Xv rfl (v_len_slice u56 rfl) ?_
 refine Xm ?_
 refine Ze (Zt (w_block ?_))
 refine w_loop (σ := Nat) (fun x => x ≤ xs.length ∧ xs.take x = ys.take x) (fun x => [(0, Value.slice A1 xs.length c1), (1, Value.slice A2 ys.length c2), (2, Value.func (.func 161) #[] #[]), (15, Value.slice A1 xs.length c1), (16, Value.int .i64 (xs.length : Nat)), (17, Value.int .i64 (x : Nat))]) (fun x => []) (fun x => [(w, fun _ => True)]) (fun x => xs.length - x) (0) (⟨Nat.zero_le _, rfl⟩) (l_start Zu (fun _ h => h)) ?_
 rintro k ⟨hk, ht⟩
 refine w_state ([(0, Value.slice A1 xs.length c1), (1, Value.slice A2 ys.length c2), (2, Value.func (.func 161) #[] #[]), (15, Value.slice A1 xs.length c1), (16, Value.int .i64 (xs.length : Nat)), (17, Value.int .i64 (k : Nat))]) ([]) ([(w, fun _ => True)]) ?_
 refine Zs (Zr ?_)
 refine Xb rfl (v_lss rfl rfl) fun b18 hb18 => ?_
 refine Ze (Zt (Zs ?_))
 refine w_cond rfl (fun hc18 => ?_) (fun hc18 => ?_)
 ·simp only [hb18, Qz, ne_eq] at hc18
  have h1 : k < xs.length := by omega
  have h2 : k < ys.length := by omega
  obtain ⟨b1, o1, u1, hA1, _, t1, v1, _, r1⟩ := seg_at h1s h1
  obtain ⟨b2, o2, u2, hA2, _, t2, v2, _, r2⟩ := seg_at h2s h2
  obtain ⟨B1, d1, rfl, _⟩ := id r1
  obtain ⟨B2, d2, rfl, _⟩ := id r2
  refine w_skip (Zt (Zs (w_block (Zs (Zr ?_)))))
  refine Xm ?_
  refine Xv rfl (v_indexAddr u56 sz134 (congrArg (fun A => some (Value.slice A xs.length c1)) hA1) rfl Zo rfl) ?_
  refine Xv rfl (v_loadN (vs := [Value.string xs[k].tag, .slice B1 xs[k].els.length d1]) u134 rfl sz134 rfl (fun i hi => by match i, hi with | 0, _ => exact at_ro (.head _) trivial t1 | 1, _ => exact at_ro (.head _) trivial v1)) ?_
  refine x_alloc rfl rfl rfl zr134 ?_
  intro p8
  refine Xa ?_
  refine x_store0 [] rfl rfl rfl rfl sz134 rfl rfl ?_
  refine Ze (Zt (Zs (Zr ?_)))
  refine Xm ?_
  refine Xm ?_
  refine Xv rfl (v_indexAddr u56 sz134 (congrArg (fun A => some (Value.slice A ys.length c2)) hA2) rfl Zo rfl) ?_
  refine Xv rfl (v_loadN (vs := [Value.string ys[k].tag, .slice B2 ys[k].els.length d2]) u134 rfl sz134 rfl (fun i hi => by match i, hi with | 0, _ => exact at_ro (.head _) trivial t2 | 1, _ => exact at_ro (.head _) trivial v2)) ?_
  refine x_alloc rfl rfl rfl zr134 ?_
  intro p9
  refine x_store0 [] rfl rfl rfl rfl sz134 rfl rfl ?_
  refine Ze (Zt (Zs (Zr ?_)))
  refine Xm ?_
  refine Xv rfl (v_load_blk (e := 134) (fz := (0, 0)) (cs := [Value.string xs[k].tag, .slice B1 xs[k].els.length d1].toArray) u134 rfl rfl (.tail _ (.head _)) sz134) ?_
  refine Xv rfl (v_load_blk (e := 134) (fz := (0, 0)) (cs := [Value.string ys[k].tag, .slice B2 ys[k].els.length d2].toArray) u134 rfl rfl (.head _) sz134) ?_
  refine x_clb rfl rfl rfl rfl Tryz.func161 Zk rfl (fun w1 hw1 => by exact calls_clp (c_same1 (x := xs[k]) (y := ys[k]) w1 (r1.keep (Kept.later (hw1.base (by simp)))) (r2.keep (Kept.later (hw1.base (by simp)))))) fun b29 hb29 => ?_
  refine Xb rfl (v_not rfl) fun b30 hb30 => ?_
  refine Ze (Zt ?_)
  refine w_cond rfl (fun hc30 => ?_) (fun hc30 => ?_)
  ·have hne : xs ≠ ys := ne_at h1 h2 (fun h => by rw [hb30, hb29, decide_eq_true h] at hc30; cases hc30)
   refine Zs (Zr ?_)
   refine Xa ?_
   refine Ze (Zt (w_ret (b_ret (t_ret (t_ret (b_ret (t_ret ?_)))))))
   refine ret1 rfl rfl (fun w' hm => ⟨?_, hm.base (by simp)⟩)
   rw [decide_eq_false (hne)]
  have heq : xs[k] = ys[k] := by
   rw [hb30, hb29] at hc30
   exact of_decide_eq_true (by simpa using hc30)
  refine w_skip (b_norm (Zt (Zr ?_)))
  refine Xv rfl (v_addi rfl rfl rfl Zo) ?_
  refine Xm ?_
  refine Ze ?_
  exact l_norm (k + 1) ⟨by omega, take_eq_succ h1 h2 ht heq⟩ (by omega) Zu (fun _ h => h.less (List.nil_sublist _) (fun _ h => h))
 simp only [hb18, Qz, ne_eq] at hc18
 obtain rfl : k = xs.length := by omega
 refine w_exit ?_
 refine t_exit ?_
 refine t_exit ?_
 refine b_hit ?_
 refine Zt (Zs (Zr ?_))
 refine Xa ?_
 refine Ze (Zt (w_ret ?_))
 refine ret1 rfl rfl (fun w' hm => ⟨?_, hm.base (by simp)⟩)
 rw [decide_eq_true (take_all hlen ht)]
theorem c_same {u v : Value} {xs ys : List Seg} {D1 D2 : Nat → Prop} (w : World) (h1s : sliceRd tySeg D1 w u xs) (h2s : sliceRd tySeg D2 w v ys) :
  Calls Tryz.prog 111 #[u, v] w fun e w' => e = .returned (.bool (decide (xs = ys))) ∧ Later w w' := by
 refine enter (vs := [u, v]) Tryz.func111 rfl Tryz.ntmps111 rfl ?_
 refine Zs (Zr ?_)
 refine Xa ?_
 refine Ze (Zt (Zs (Zr ?_)))
 refine Xm ?_
 refine Xm ?_
 refine x_callb rfl rfl rfl Tryz.func160 Zk rfl (fun w1 hw1 => c_EF1 w1 (h1s.keep (Kept.later (hw1.base (by simp)))) (h2s.keep (Kept.later (hw1.base (by simp))))) fun b7 hb7 => ?_
 refine Xa ?_
 refine Ze (Zt (w_ret ?_))
 refine ret1 rfl rfl (fun w' hm => ⟨?_, hm.base (by simp)⟩)
 rw [hb7]
open Go.RowKit Go.PK
theorem rdE_ok (l : List Seg) : (rdE l).ok := ⟨readP_in _, readP_in _, readP_in _, readP_in _, readP_in _, readP_in _⟩
theorem ord_out {v : Value} {e : Ending} {wa wb : World} {xs : List Seg} (h1 : e = .returned v) (h2 : Later wa wb) (h3 : sliceRd tySeg (fun b => wa.heap.size ≤ b) wb v xs) (h4 : xs.length = 0 → v = .slice none 0 0) :
  ∃ v, e = .returned v ∧ Later wa wb ∧ ∃ A1 c1, v = .slice A1 xs.length c1 ∧ sliceRd tySeg (fun b => wa.heap.size ≤ b) wb (.slice A1 xs.length c1) xs ∧ A1.isNone = decide (xs.length = 0) := by
 obtain ⟨A1, c1, rfl, _, _, hh⟩ := id h3
 refine ⟨_, h1, h2, A1, c1, rfl, h3, ?_⟩
 by_cases h0 : xs.length = 0
 ·have h5 := h4 h0
  injection h5 with h5
  rw [h5, decide_eq_true h0]; rfl
 obtain ⟨b, o, rfl, _⟩ := hh (by omega)
 rw [decide_eq_false h0]; rfl
theorem c_ReadOrder {v : Value} {l : List Seg} {D : Nat → Prop} (w : World) (hl : sliceRd tySeg D w v l) (hbig : bigO l) (hL : LD w) :
  Calls Tryz.prog 55 #[v] w fun e w' => e = .returned (.tuple #[.agg (rdO l).1.cells.toArray, .int .i64 (rdO l).2]) ∧ Later w w' := by
 obtain ⟨A, cp, rfl, hlc, hmx, _⟩ := id hl
 refine enter (vs := [Value.slice A l.length cp]) Tryz.func55 rfl Tryz.ntmps55 rfl ?_
 refine Zs (Zr ?_)
 refine x_alloc rfl rfl rfl zr25 ?_
 intro p2
 refine Xa ?_
 refine Ze (Zt (Zs (Zr ?_)))
 refine Xm ?_
 refine x_callv rfl rfl rfl Tryz.func109 Zk rfl (fun w1 hw1 => c_text 1 1 0 w1 (hl.keep (Kept.later (hw1.base (by simp))))) ?_
 refine x_callv rfl rfl rfl Tryz.func108 Zk rfl (fun w1 hw1 => c_read (txt l 1 1 0) w1 (Nat.le_trans (txt_sz hbig 1 1 0) (by decide)) (hL.later (hw1.base (by simp)))) ?_
 refine Xm ?_
 refine x_callv rfl rfl rfl Tryz.func109 Zk rfl (fun w1 hw1 => c_text 2 2 0 w1 (hl.keep (Kept.later (hw1.base (by simp))))) ?_
 refine x_callv rfl rfl rfl Tryz.func110 Zk rfl (fun w1 hw1 => c_erec (txt l 2 2 0) w1 (txt_sz hbig 2 2 0) (hL.later (hw1.base (by simp)))) ?_
 refine Xm ?_
 refine x_callv rfl rfl rfl Tryz.func109 Zk rfl (fun w1 hw1 => c_text 3 0 1 w1 (hl.keep (Kept.later (hw1.base (by simp))))) ?_
 refine x_callv rfl rfl rfl Tryz.func108 Zk rfl (fun w1 hw1 => c_read (txt l 3 0 1) w1 (Nat.le_trans (txt_sz hbig 3 0 1) (by decide)) (hL.later (hw1.base (by simp)))) ?_
 refine Xm ?_
 refine x_callv rfl rfl rfl Tryz.func109 Zk rfl (fun w1 hw1 => c_text 4 0 1 w1 (hl.keep (Kept.later (hw1.base (by simp))))) ?_
 refine x_callv rfl rfl rfl Tryz.func108 Zk rfl (fun w1 hw1 => c_read (txt l 4 0 1) w1 (Nat.le_trans (txt_sz hbig 4 0 1) (by decide)) (hL.later (hw1.base (by simp)))) ?_
 refine Xm ?_
 refine x_callv rfl rfl rfl Tryz.func109 Zk rfl (fun w1 hw1 => c_text 5 0 1 w1 (hl.keep (Kept.later (hw1.base (by simp))))) ?_
 refine x_callv rfl rfl rfl Tryz.func108 Zk rfl (fun w1 hw1 => c_read (txt l 5 0 1) w1 (Nat.le_trans (txt_sz hbig 5 0 1) (by decide)) (hL.later (hw1.base (by simp)))) ?_
 refine Xv rfl (v_buildL (places := [(0, 1), (1, 1), (2, 2), (4, 1), (5, 1), (6, 1), (7, 1), (8, 1)]) u25 zr25 Zk rfl rfl) ?_
 refine x_alloc rfl rfl rfl zr25 ?_
 intro p4
 refine x_store0 [] rfl rfl rfl rfl sz25 rfl rfl ?_
 refine Ze (Zt (Zs (Zs (Zr ?_))))
 refine Xv rfl (v_load_blk (e := 25) (fz := (0, 0)) (cs := (rdE l).cells.toArray) u25 rfl rfl (.head _) sz25) ?_
 refine x_call (R := fun v wa wb => ∃ A1 c1, v = .slice A1 (orderR (rdE l)).length c1 ∧ sliceRd tySeg (fun b => wa.heap.size ≤ b) wb (.slice A1 (orderR (rdE l)).length c1) (orderR (rdE l)) ∧ A1.isNone = decide ((orderR (rdE l)).length = 0)) rfl rfl rfl Tryz.func104 Zk rfl (fun w1 hw1 => (c_Order (rdE l) w1 (rdE_ok l) (hL.later (hw1.base (by simp)))).mono fun e w2 ⟨v, h1, h2, h3, h4⟩ => ord_out h1 h2 h3 h4) fun v23 wa23 wb23 hm23 hl23 hR23 => ?_
 obtain ⟨A1, c1, rfl, hr23, hn23⟩ := hR23
 refine Xa ?_
 refine Ze (Zt (Zs (Zr ?_)))
 refine Xm ?_
 refine Xb rfl (v_sliceNil u56 rfl) fun b25 hb25 => ?_
 refine Xm ?_
 refine Xg ?_
 refine Xg ?_
 refine x_call_ifb [] rfl rfl rfl rfl rfl Tryz.func111 Zk (fun hg => by obtain ⟨hg0, _⟩ := hg; subst hg0; (try simp only [Qy]); refine ⟨_, rfl, ?_⟩; exact fun w1 hw1 => c_same (xs := orderR (rdE l)) (ys := l) w1 (keep_new hr23 hw1 Zh hm23) (hl.keep (Kept.later (hw1.base (by simp))))) fun b29 hb29 => ?_
 refine Xj rfl rfl rfl (fun hg0 => by subst hg0; (try simp only [Qy]); exact v_not rfl) fun b30 hb30 => ?_
 refine Xb rfl (v_or rfl rfl) fun b31 hb31 => ?_
 refine Ze (Zt ?_)
 refine w_cond rfl (fun hc31 => ?_) (fun hc31 => ?_)
 ·have hno : ¬(wrO (rdE l) ∧ orderP (rdE l) = l) := fun ⟨q1, q2⟩ => by
   have q3 : orderR (rdE l) = orderP (rdE l) := by unfold orderR; rw [if_pos ((writB_iff _).2 q1)]
   rw [hb31, hb30, hb29, hb25, hn23, q3, decide_eq_true q2] at hc31
   revert hc31; simp [orderP]
  refine Zs (Zr ?_)
  refine Xv rfl (v_buildL (places := [(0, 1), (1, 1), (2, 2), (4, 1), (5, 1), (6, 1), (7, 1), (8, 1)]) u25 zr25 Zk rfl rfl) ?_
  refine x_store0 [(p4, Obj.cells (rdE l).cells.toArray 25)] rfl rfl rfl rfl sz25 rfl rfl ?_
  refine Xa ?_
  refine Ze (Zt (w_ret (t_ret ?_)))
  refine retct (cs := zeroO.cells.toArray) rfl rfl rfl Zh u25 rfl sz25 (fun w' hm => ⟨?_, hm.base (by simp)⟩)
  unfold rdO; rw [if_neg hno]
 have hyes : wrO (rdE l) ∧ orderP (rdE l) = l := by
  rw [hb31, hb30, hb29, hb25, hn23] at hc31
  simp only [Bool.or_eq_false_iff, decide_eq_false_iff_not, Bool.not_eq_false', decide_eq_true_eq] at hc31
  by_cases hw : writB (rdE l) = true
  ·have q3 : orderR (rdE l) = orderP (rdE l) := by unfold orderR; rw [if_pos hw]
   exact ⟨(writB_iff _).1 hw, by rw [← q3]; exact hc31.2⟩
  exfalso; apply hc31.1; unfold orderR; rw [if_neg hw]; rfl
 refine w_skip (Zt (Zs (Zr ?_)))
 refine Xv rfl (v_load_blk (e := 25) (fz := (0, 0)) (cs := (rdE l).cells.toArray) u25 rfl rfl (.head _) sz25) ?_
 refine x_store0 [(p4, Obj.cells (rdE l).cells.toArray 25)] rfl rfl rfl rfl sz25 rfl rfl ?_
 refine Xa ?_
 refine Ze (Zt (w_ret ?_))
 refine retct (cs := (rdE l).cells.toArray) rfl rfl rfl Zh u25 rfl sz25 (fun w' hm => ⟨?_, hm.base (by simp)⟩)
 unfold rdO; rw [if_pos hyes]
open Go.RowKit Go.PK
open Go.RowKit Go.PK
theorem c_Total {v : Value} {ls : List PK.Ord} {D : Nat → Prop} (w : World) (hls : sliceRd tyOrd D w v ls) (hw : ∀ o ∈ ls, wrO (pf o)) (hn : ls.length ≤ 1000) :
  Calls Tryz.prog 74 #[v] w fun e w' => e = .returned (.int .i64 (totalP ls)) ∧ Later w w' := by
 obtain ⟨A, cp, rfl, hlc, hmx, _⟩ := id hls
 refine enter (vs := [Value.slice A ls.length cp]) Tryz.func74 rfl Tryz.ntmps74 rfl ?_
 refine Zs (Zr ?_)
 refine Xa ?_
 refine Ze (Zt (Zs (Zr ?_)))
 refine Xa ?_
 refine Ze (Zt (Zs (Zs (Zr ?_))))
 refine Xa ?_
 refine Ze (Zt (w_block ?_))
 refine w_loop (σ := Nat) (fun k => k ≤ ls.length) (fun k => [(0, Value.slice A ls.length cp), (3, Value.int .i64 (totalP (ls.take k))), (4, Value.int .i64 (k : Nat))]) (fun k => []) (fun k => [(w, fun _ => True)]) (fun k => ls.length - k) (0) (Nat.zero_le _) (l_start Zu (fun _ h => h)) ?_
 rintro k hk
 refine w_state ([(0, Value.slice A ls.length cp), (3, Value.int .i64 (totalP (ls.take k))), (4, Value.int .i64 (k : Nat))]) ([]) ([(w, fun _ => True)]) ?_
 refine Zs (Zs (Zr ?_))
 refine Xm ?_
 refine Xm ?_
 refine Xv rfl (v_len_slice u52 rfl) ?_
 refine Xb rfl (v_lss rfl rfl) fun b8 hb8 => ?_
 refine Ze (Zt ?_)
 refine w_cond rfl (fun hc8 => ?_) (fun hc8 => ?_)
 ·simp only [hb8, Qz, ne_eq] at hc8
  have hkl : k < ls.length := by omega
  obtain ⟨ob, oo, hA, _, hc, hoA⟩ := ord_at hls hkl
  obtain ⟨g1, g2, _⟩ := line_rng (hw ls[k] (List.getElem_mem hkl))
  obtain ⟨t1, t2⟩ := total_take hw k
  obtain ⟨ox, hox⟩ : ∃ x, ls[k] = x := ⟨_, rfl⟩
  have hst : totalP (ls.take (k + 1)) = totalP (ls.take k) + ox.copies * ox.price := by rw [take_snoc hkl, totalP_snoc, hox]
  rw [hox] at g1 g2 hc
  refine w_skip (Zt (Zs (w_block ?_)))
  refine rg_draw 14 [(true, 0), (true, 1), (true, 2), (true, 3), (true, 4), (true, 5), (true, 6), (true, 7), (true, 8), (true, 9), (true, 10), (true, 11), (true, 12), (true, 13)] Zk Zk ?_
  refine Xm ?_
  refine Xm ?_
  refine Xm ?_
  refine Xv rfl (v_indexAddr u52 sz25 (congrArg (fun A => some (Value.slice A ls.length cp)) hA) rfl (hkl) rfl) ?_
  refine Xv rfl (v_fieldAddr u25 rfl sz3 (by decide) rfl rfl) ?_
  refine Xv rfl (v_load u3 rfl rfl (at_ro (.head _) trivial (hc 4 (by decide)))) ?_
  refine Xm ?_
  refine Xm ?_
  refine Xv rfl (v_indexAddr u52 sz25 (congrArg (fun A => some (Value.slice A ls.length cp)) hA) rfl (hkl) rfl) ?_
  refine Xv rfl (v_fieldAddr u25 rfl sz3 (by decide) rfl rfl) ?_
  refine Xv rfl (v_load u3 rfl rfl (at_ro (.head _) trivial (hc 5 (by decide)))) ?_
  refine Xv rfl (v_muli rfl rfl rfl (by omega)) ?_
  refine Xv rfl (v_addi (c := totalP (ls.take (k + 1))) rfl rfl hst.symm (by rw [hst]; omega)) ?_
  refine Xa ?_
  refine Ze (b_norm (Zt (Zr ?_)))
  refine Xm ?_
  refine Xv rfl (v_addi rfl rfl rfl Zo) ?_
  refine Xa ?_
  refine Ze ?_
  exact l_norm (k + 1) (show k + 1 ≤ ls.length by omega) (by omega) Zu (fun _ h => h)
 simp only [hb8, Qz, ne_eq] at hc8
 obtain rfl : k = ls.length := by omega
 refine w_exit ?_
 refine t_exit ?_
 refine t_exit ?_
 refine b_hit ?_
 refine Zt (Zs (Zr ?_))
 refine Xm ?_
 refine Xa ?_
 refine Ze (Zt (w_ret ?_))
 refine ret1 rfl rfl (fun w' hm => ⟨?_, hm.base (by simp)⟩)
 rw [List.take_length]
theorem c_Payable {v : Value} {ls : List PK.Ord} {D : Nat → Prop} (w : World) (hls : sliceRd tyOrd D w v ls)  :
  Calls Tryz.prog 71 #[v] w fun e w' => e = .returned (.bool (decide (payP ls))) ∧ Later w w' := by
 obtain ⟨A, cp, rfl, hlc, hmx, _⟩ := id hls
 refine enter (vs := [Value.slice A ls.length cp]) Tryz.func71 rfl Tryz.ntmps71 rfl ?_
 refine Zs (Zr ?_)
 refine Xa ?_
 refine Ze (Zt (Zs (Zs (Zr ?_))))
 refine Xm ?_
 refine Xv rfl (v_len_slice u52 rfl) ?_
 refine Xb rfl (v_lss rfl rfl) fun b8 hb8 => ?_
 refine Xm ?_
 refine Xg ?_
 refine Xi rfl rfl rfl (fun hg0 => by subst hg0; (try simp only [Qy]); exact v_len_slice u52 rfl) ?_
 refine Xj rfl rfl rfl (fun hg0 => by subst hg0; (try simp only [Qy]); exact v_gtr rfl rfl) fun b12 hb12 => ?_
 refine Xb rfl (v_or rfl rfl) fun b13 hb13 => ?_
 refine Ze (Zt ?_)
 refine w_cond rfl (fun hc13 => ?_) (fun hc13 => ?_)
 ·have hno : ¬payP ls := fun ⟨q1, q2, _⟩ => by
   simp only [hb13, hb12, hb8, Bool.or_eq_true, decide_eq_true_eq] at hc13
   omega
  refine Zs (Zr ?_)
  refine Xa ?_
  refine Ze (Zt (w_ret (t_ret ?_)))
  refine ret1 rfl rfl (fun w' hm => ⟨?_, hm.base (by simp)⟩)
  rw [decide_eq_false hno]
 have hlen : 1 ≤ ls.length ∧ ls.length ≤ 999 := by
  simp only [hb13, hb12, hb8, Bool.or_eq_false_iff, decide_eq_false_iff_not] at hc13
  omega
 refine w_skip (Zt (Zs (Zs (Zr ?_))))
 refine Xa ?_
 refine Ze (Zt (w_block ?_))
 refine w_loop (σ := Nat) (fun k => k ≤ ls.length ∧ ∀ o ∈ ls.take k, wrO (pf o)) (fun k => [(0, Value.slice A ls.length cp), (3, Value.int .i64 (k : Nat))]) (fun k => []) (fun k => [(w, fun _ => True)]) (fun k => ls.length - k) (0) (⟨Nat.zero_le _, fun o ho => by simp at ho⟩) (l_start Zu (fun _ h => h)) ?_
 rintro k ⟨hk, hwr⟩
 refine w_state ([(0, Value.slice A ls.length cp), (3, Value.int .i64 (k : Nat))]) ([]) ([(w, fun _ => True)]) ?_
 refine Zs (Zs (Zr ?_))
 refine Xm ?_
 refine Xm ?_
 refine Xv rfl (v_len_slice u52 rfl) ?_
 refine Xb rfl (v_lss rfl rfl) fun b17 hb17 => ?_
 refine Ze (Zt ?_)
 refine w_cond rfl (fun hc17 => ?_) (fun hc17 => ?_)
 ·simp only [hb17, Qz, ne_eq] at hc17
  have hkl : k < ls.length := by omega
  obtain ⟨ob, oo, hA, _, hc, hoA⟩ := ord_at hls hkl
  refine w_skip (Zt (Zs (w_block (Zs (Zr ?_)))))
  refine Xm ?_
  refine Xm ?_
  refine Xv rfl (v_indexAddr u52 sz25 (congrArg (fun A => some (Value.slice A ls.length cp)) hA) rfl (hkl) rfl) ?_
  refine Xv rfl (v_loadN (vs := ls[k].cells) u25 rfl sz25 rfl (fun j hj => at_ro (.head _) trivial (hc j hj))) ?_
  refine x_alloc rfl rfl rfl zr25 ?_
  intro p4
  refine x_store0 [] rfl rfl rfl rfl sz25 rfl rfl ?_
  refine Ze (Zt (Zs (Zr ?_)))
  refine Xv rfl (v_fieldAddr (off' := 1) u25 rfl sz3 (by decide) rfl rfl) ?_
  refine x_store [] rfl rfl rfl rfl sz3 rfl (by show 2 ≤ 9; decide) ?_
  refine Ze (Zt (Zs ?_))
  refine w_state _ [(p4, Obj.cells (pf ls[k]).cells.toArray 25)] _ ?_
  refine Zr ?_
  refine Xv rfl (v_load_blk (e := 25) (fz := (0, 0)) (cs := (pf ls[k]).cells.toArray) u25 rfl rfl (.head _) sz25) ?_
  refine x_callb rfl rfl rfl Tryz.func128 Zk rfl (fun w1 hw1 => c_rWritable (pf ls[k]) w1) fun b26 hb26 => ?_
  refine Xa ?_
  refine Ze (Zt (Zs (Zr ?_)))
  refine Xm ?_
  refine Xb rfl (v_not rfl) fun b28 hb28 => ?_
  refine Ze (Zt ?_)
  refine w_cond rfl (fun hc28 => ?_) (fun hc28 => ?_)
  ·have hno : ¬payP ls := fun ⟨_, _, q⟩ => by
    rw [hb28, hb26, (writB_iff _).2 (q ls[k] (List.getElem_mem hkl))] at hc28
    cases hc28
   refine Zs (Zr ?_)
   refine Xa ?_
   refine Ze (Zt (w_ret (b_ret (t_ret (t_ret (b_ret (t_ret ?_)))))))
   refine ret1 rfl rfl (fun w' hm => ⟨?_, hm.base (by simp)⟩)
   rw [decide_eq_false hno]
  have hyes : wrO (pf ls[k]) := by
   rw [hb28, hb26] at hc28
   exact (writB_iff _).1 (by simpa using hc28)
  refine w_skip (b_norm (Zt (Zr ?_)))
  refine Xm ?_
  refine Xv rfl (v_addi rfl rfl rfl Zo) ?_
  refine Xa ?_
  refine Ze ?_
  exact l_norm (k + 1) ⟨by omega, take_all_wr hkl hwr hyes⟩ (by omega) Zu (fun w1 h => h.less (List.nil_sublist _) (fun _ h => h))
 simp only [hb17, Qz, ne_eq] at hc17
 obtain rfl : k = ls.length := by omega
 rw [List.take_length] at hwr
 refine w_exit ?_
 refine t_exit ?_
 refine t_exit ?_
 refine b_hit ?_
 refine Zt (Zs (Zr ?_))
 refine Xa ?_
 refine Ze (Zt (w_ret ?_))
 refine ret1 rfl rfl (fun w' hm => ⟨?_, hm.base (by simp)⟩)
 rw [decide_eq_true (show payP ls from ⟨hlen.1, hlen.2, hwr⟩)]
set_option maxHeartbeats 2000000 in
theorem c_With {v : Value} {ls : List PK.Ord} {D : Nat → Prop} (w : World) (hls : sliceRd tyOrd D w v ls) (t : ByteArray) (hw : ∀ o ∈ ls, wrO (pf o)) (hn : ls.length ≤ 1000) (ht : okS t) :
  Calls Tryz.prog 72 #[v, .string t] w fun e w' => ∃ q, e = .returned q ∧ Later w w' ∧ sliceRd tySeg (fun b => w.heap.size ≤ b) w' q (withX ls t) := by
 obtain ⟨A, cp, rfl, hlc, hmx, _⟩ := id hls
 refine enter (vs := [Value.slice A ls.length cp, .string t]) Tryz.func72 rfl Tryz.ntmps72 rfl ?_
 refine Zs (Zr ?_)
 refine Xa ?_
 refine Ze (Zt (Zs (Zr ?_)))
 refine x_call (R := fun v wa wb => ∃ A c, v = .agg #[.string (⟨#[85, 78, 72]⟩), .slice A 2 c] ∧ sliceRd (tySlice tyStr) (fun b => wa.heap.size ≤ b) wb (.slice A 2 c) [[⟨#[49]⟩], [⟨#[73, 78, 86, 79, 73, 67]⟩, ⟨#[68]⟩, ⟨#[57, 54, 65]⟩, ⟨#[85, 78]⟩]]) rfl rfl rfl Tryz.func129 Zk rfl (fun w1 hw1 => (c_header ⟨#[73, 78, 86, 79, 73, 67]⟩ w1 (okS_small (by decide))).mono fun e w2 ⟨u, h1, h2, h3⟩ => seg_out h1 h2 h3) fun v8 wa8 wb8 hm8 hl8 hR8 => ?_
 obtain ⟨A8, c8, rfl, hs8⟩ := hR8
 refine x_buildSliceL (cs := [Value.string (⟨#[51, 56, 48]⟩)]) rfl rfl rfl u78 sz9 zr9 rfl rfl rfl ?_
 intro p9
 refine x_call (R := fun v wa wb => ∃ A c, v = .agg #[.string (⟨#[66, 71, 77]⟩), .slice A 1 c] ∧ sliceRd (tySlice tyStr) (fun b => wa.heap.size ≤ b) wb (.slice A 1 c) [[⟨#[51, 56, 48]⟩]]) rfl rfl rfl Tryz.func130 Zk rfl (fun w1 hw1 => (c_one (es := [⟨#[51, 56, 48]⟩]) (D := fun _ => True) ⟨#[66, 71, 77]⟩ w1 (lits_own (T := tyStr) (D := fun _ => True) (e := 9) (b := p9) [[Value.string (⟨#[51, 56, 48]⟩)]] (xs := [⟨#[51, 56, 48]⟩]) hw1 Zh rfl (by simp) trivial ⟨⟨rfl, (okS_small (by decide))⟩, trivial⟩) (by simp)).mono fun e w2 ⟨u, h1, h2, h3⟩ => seg_out h1 h2 h3) fun v10 wa10 wb10 hm10 hl10 hR10 => ?_
 obtain ⟨A10, c10, rfl, hs10⟩ := hR10
 refine x_buildSliceL (cs := ([[Value.string ⟨#[85, 78, 72]⟩, .slice A8 2 c8], [Value.string ⟨#[66, 71, 77]⟩, .slice A10 1 c10]] : List (List Value)).flatten) rfl rfl rfl u56 sz134 zr134 rfl rfl rfl ?_
 intro p11
 refine Xa ?_
 refine Ze (Zt (Zs (Zs (Zr ?_))))
 refine Xa ?_
 refine Ze (Zt (w_block ?_))
 refine w_fix (rowO 134 (some (p11, ([[Value.string ⟨#[85, 78, 72]⟩, .slice A8 2 c8], [Value.string ⟨#[66, 71, 77]⟩, .slice A10 1 c10]] : List (List Value)).flatten, 2))) (List.Sublist.cons_cons _ (List.nil_sublist _)) (fun w0 hm0 => ?_)
 have hmB := hm0.less (own' := rowO 134 (some (p11, ([[Value.string ⟨#[85, 78, 72]⟩, .slice A8 2 c8], [Value.string ⟨#[66, 71, 77]⟩, .slice A10 1 c10]] : List (List Value)).flatten, 2))) (List.Sublist.cons_cons _ (List.nil_sublist _)) (fun _ h => h)
 have hT0 : RowT tySeg (newD w (rowO 134 (some (p11, ([[Value.string ⟨#[85, 78, 72]⟩, .slice A8 2 c8], [Value.string ⟨#[66, 71, 77]⟩, .slice A10 1 c10]] : List (List Value)).flatten, 2)))) w0 (some (p11, ([[Value.string ⟨#[85, 78, 72]⟩, .slice A8 2 c8], [Value.string ⟨#[66, 71, 77]⟩, .slice A10 1 c10]] : List (List Value)).flatten, 2)) (headX ++ linesX 0 (ls.take 0)) := snocM (T := tySeg) (xs := []) (css := []) (css' := [[Value.string ⟨#[85, 78, 72]⟩, .slice A8 2 c8], [Value.string ⟨#[66, 71, 77]⟩, .slice A10 1 c10]]) (m := 2) (n := 0) rfl rfl (fun j h => absurd h (Nat.not_lt_zero _)) (rowOK_lit rfl (by decide)) rfl (.cons (tySeg_mk (x := ⟨⟨#[85, 78, 72]⟩, [[⟨#[49]⟩], [⟨#[73, 78, 86, 79, 73, 67]⟩, ⟨#[68]⟩, ⟨#[57, 54, 65]⟩, ⟨#[85, 78]⟩]]⟩) rfl (show (3 : Nat) ≤ 9223372036854775807 by decide) (hs8.keep (Kept.made hmB (by first | repeat (first | exact List.Mem.head _ | apply List.Mem.tail) | simp) hm8 (hm8.base (by simp)).size))) (.cons (tySeg_mk (x := ⟨⟨#[66, 71, 77]⟩, [[⟨#[51, 56, 48]⟩]]⟩) rfl (show (3 : Nat) ≤ 9223372036854775807 by decide) (hs10.keep (Kept.made hmB (by first | repeat (first | exact List.Mem.head _ | apply List.Mem.tail) | simp) hm10 (hm10.base (by simp)).size))) .nil))
 refine w_loop (σ := Nat × RowS × World) (fun x => x.1 ≤ ls.length ∧ RowT tySeg (newD w (rowO 134 x.2.1)) x.2.2 x.2.1 (headX ++ linesX 0 (ls.take x.1))) (fun x => [(0, Value.slice A ls.length cp), (1, Value.string t), (5, rowV x.2.1 (2 + 4 * x.1)), (6, Value.int .i64 (x.1 : Nat))]) (fun x => rowO 134 x.2.1) (fun x => (x.2.2, notOwn (rowO 134 x.2.1)) :: [(w, fun _ => True)]) (fun x => ls.length - x.1) ((0, (some (p11, ([[Value.string ⟨#[85, 78, 72]⟩, .slice A8 2 c8], [Value.string ⟨#[66, 71, 77]⟩, .slice A10 1 c10]] : List (List Value)).flatten, 2)), w0)) (⟨Nat.zero_le _, hT0⟩) (l_start Zu (fun _ h => h.less (List.Sublist.refl _) (fun q hq => by simp at hq ⊢; rcases hq with h | h; (· exact .inl h); simp [h]))) ?_
 rintro ⟨k, R, ws⟩ ⟨hk, hT⟩
 refine w_state ([(0, Value.slice A ls.length cp), (1, Value.string t), (5, rowV R (2 + 4 * k)), (6, Value.int .i64 (k : Nat))]) (rowO 134 R) ((ws, notOwn (rowO 134 R)) :: [(w, fun _ => True)]) ?_
 dsimp only at hk hT
 have hln := hl_len hk
 refine Zs (Zs (Zr ?_))
 refine Xm ?_
 refine Xm ?_
 refine Xv rfl (v_len_slice u52 rfl) ?_
 refine Xb rfl (v_lss rfl rfl) fun b15 hb15 => ?_
 refine Ze (Zt ?_)
 refine w_cond rfl (fun hc15 => ?_) (fun hc15 => ?_)
 ·simp only [hb15, Qz, ne_eq] at hc15
  have hkl : k < ls.length := by omega
  obtain ⟨ob, oo, hA, _, hc, hoA⟩ := ord_at hls hkl
  obtain ⟨_, _, ⟨r1, r2⟩, ⟨r3, r4⟩, ⟨r5, r6⟩, ⟨r7, r8⟩, r9, r10⟩ := line_rng (hw ls[k] (List.getElem_mem hkl))
  obtain ⟨⟨i1, _, i3, i4, i5, i6⟩, _⟩ := id hoA
  refine w_skip (Zt (Zs (w_block (Zs (Zr ?_)))))
  refine Xm ?_
  refine Xm ?_
  refine Xv rfl (v_indexAddr u52 sz25 (congrArg (fun A => some (Value.slice A ls.length cp)) hA) rfl (hkl) rfl) ?_
  refine Xv rfl (v_loadN (vs := ls[k].cells) u25 rfl sz25 rfl (fun j hj => at_ro (.tail _ (.head _)) trivial (hc j hj))) ?_
  refine x_alloc rfl rfl rfl zr25 ?_
  intro p7
  refine x_store0 [] rfl rfl rfl rfl sz25 rfl rfl ?_
  refine Ze (Zt ?_)
  refine rg_draw 19 [(true, 0), (true, 1), (true, 2), (true, 3), (true, 4), (true, 6), (true, 7), (true, 10), (true, 11), (true, 14), (true, 15), (false, 5), (true, 8), (false, 9), (true, 12), (false, 13), (true, 16), (false, 17), (false, 18)] Zk Zk ?_
  refine Xm ?_
  refine Xm ?_
  refine Xv rfl (v_addi (c := ((k + 1 : Nat) : Int)) rfl rfl (by omega) (by omega)) ?_
  refine Xv rfl (v_fieldAddr (off' := 2) u25 rfl sz23 (by decide) rfl rfl) ?_
  refine Xv rfl (v_loadN (vs := [Value.int .i64 ls[k].src, .int .i64 ls[k].num]) u23 rfl sz23 rfl (fun j hj => at_ownL (vs := ls[k].cells) Zh (by match j, hj with | 0, _ => rfl | 1, _ => rfl))) ?_
  refine Xv rfl (v_fieldAddr (off' := 0) u25 rfl sz3 (by decide) rfl rfl) ?_
  refine Xv rfl (Vl u3 rfl) ?_
  refine Xv rfl (v_fieldAddr (off' := 4) u25 rfl sz3 (by decide) rfl rfl) ?_
  refine Xv rfl (Vl u3 rfl) ?_
  refine Xv rfl (v_fieldAddr (off' := 5) u25 rfl sz3 (by decide) rfl rfl) ?_
  refine Xv rfl (Vl u3 rfl) ?_
  refine x_call (R := fun v wa wb => ∃ A c, v = .agg #[.string (⟨#[76, 73, 78]⟩), .slice A 3 c] ∧ sliceRd (tySlice tyStr) (fun b => wa.heap.size ≤ b) wb (.slice A 3 c) [[itoaS ((k + 1 : Nat) : Int)], [⟨#[]⟩], [recT ls[k].src ls[k].num, ⟨#[83, 82, 86]⟩]]) rfl rfl rfl Tryz.func131 Zk rfl (fun w1 hw1 => (c_line ((k + 1 : Nat) : Int) (ls[k].src, ls[k].num) w1 ⟨by omega, by unfold in64; omega⟩ ⟨r3, i3⟩ ⟨r5, i4⟩).mono fun e w2 ⟨u, h1, h2, h3⟩ => seg_out h1 h2 h3) fun v27 wa27 wb27 hm27 hl27 hR27 => ?_
  obtain ⟨A27, c27, rfl, hs27⟩ := hR27
  refine x_callv rfl rfl rfl Tryz.func73 Zk rfl (fun w1 hw1 => c_Dec ls[k].id w1 r1 i1) ?_
  refine x_call (R := fun v wa wb => ∃ A c, v = .agg #[.string (⟨#[82, 70, 70]⟩), .slice A 1 c] ∧ sliceRd (tySlice tyStr) (fun b => wa.heap.size ≤ b) wb (.slice A 1 c) [[⟨#[79, 78]⟩, itoaS ls[k].id]]) rfl rfl rfl Tryz.func132 Zk rfl (fun w1 hw1 => (c_pair ⟨#[82, 70, 70]⟩ ⟨#[79, 78]⟩ (itoaS ls[k].id) w1 (okS_small (by decide)) (itoa_ok i1)).mono fun e w2 ⟨u, h1, h2, h3⟩ => seg_out h1 h2 h3) fun v31 wa31 wb31 hm31 hl31 hR31 => ?_
  obtain ⟨A31, c31, rfl, hs31⟩ := hR31
  refine x_callv rfl rfl rfl Tryz.func73 Zk rfl (fun w1 hw1 => c_Dec ls[k].copies w1 r7 i5) ?_
  refine x_call (R := fun v wa wb => ∃ A c, v = .agg #[.string (⟨#[81, 84, 89]⟩), .slice A 1 c] ∧ sliceRd (tySlice tyStr) (fun b => wa.heap.size ≤ b) wb (.slice A 1 c) [[⟨#[52, 55]⟩, itoaS ls[k].copies]]) rfl rfl rfl Tryz.func132 Zk rfl (fun w1 hw1 => (c_pair ⟨#[81, 84, 89]⟩ ⟨#[52, 55]⟩ (itoaS ls[k].copies) w1 (okS_small (by decide)) (itoa_ok i5)).mono fun e w2 ⟨u, h1, h2, h3⟩ => seg_out h1 h2 h3) fun v35 wa35 wb35 hm35 hl35 hR35 => ?_
  obtain ⟨A35, c35, rfl, hs35⟩ := hR35
  refine x_callv rfl rfl rfl Tryz.func73 Zk rfl (fun w1 hw1 => c_Dec ls[k].price w1 r9 i6) ?_
  refine x_call (R := fun v wa wb => ∃ A c, v = .agg #[.string (⟨#[80, 82, 73]⟩), .slice A 1 c] ∧ sliceRd (tySlice tyStr) (fun b => wa.heap.size ≤ b) wb (.slice A 1 c) [[⟨#[65, 65, 65]⟩, itoaS ls[k].price]]) rfl rfl rfl Tryz.func132 Zk rfl (fun w1 hw1 => (c_pair ⟨#[80, 82, 73]⟩ ⟨#[65, 65, 65]⟩ (itoaS ls[k].price) w1 (okS_small (by decide)) (itoa_ok i6)).mono fun e w2 ⟨u, h1, h2, h3⟩ => seg_out h1 h2 h3) fun v39 wa39 wb39 hm39 hl39 hR39 => ?_
  obtain ⟨A39, c39, rfl, hs39⟩ := hR39
  refine x_buildSliceL (cs := ([[Value.string ⟨#[76, 73, 78]⟩, .slice A27 3 c27], [Value.string ⟨#[82, 70, 70]⟩, .slice A31 1 c31], [Value.string ⟨#[81, 84, 89]⟩, .slice A35 1 c35], [Value.string ⟨#[80, 82, 73]⟩, .slice A39 1 c39]] : List (List Value)).flatten) rfl rfl rfl u56 sz134 zr134 rfl rfl rfl ?_
  intro p40
  obtain ⟨css, hcl, hrow, hrd⟩ := hT
  rw [hln] at hcl hrow
  refine x_append (e := 134) [(p40, Obj.cells ([[Value.string ⟨#[76, 73, 78]⟩, .slice A27 3 c27], [Value.string ⟨#[82, 70, 70]⟩, .slice A31 1 c31], [Value.string ⟨#[81, 84, 89]⟩, .slice A35 1 c35], [Value.string ⟨#[80, 82, 73]⟩, .slice A39 1 c39]] : List (List Value)).flatten.toArray 134), (p7, Obj.cells ls[k].cells.toArray 25)] (l2 := []) R (len := 2 + 4 * k) (xs := css.flatten) rfl rfl rfl rfl (by rw [List.append_nil]; rfl) hrow u56 ap134 rfl rfl (m := 4) (news := ([[Value.string ⟨#[76, 73, 78]⟩, .slice A27 3 c27], [Value.string ⟨#[82, 70, 70]⟩, .slice A31 1 c31], [Value.string ⟨#[81, 84, 89]⟩, .slice A35 1 c35], [Value.string ⟨#[80, 82, 73]⟩, .slice A39 1 c39]] : List (List Value)).flatten) (fun i hi => at_ownL (vs := ([[Value.string ⟨#[76, 73, 78]⟩, .slice A27 3 c27], [Value.string ⟨#[82, 70, 70]⟩, .slice A31 1 c31], [Value.string ⟨#[81, 84, 89]⟩, .slice A35 1 c35], [Value.string ⟨#[80, 82, 73]⟩, .slice A39 1 c39]] : List (List Value)).flatten) (.head _) (by rw [Nat.zero_add]; exact List.getElem?_eq_getElem hi)) rfl Zx (by omega) fun R' hR' => ?_
  refine Xa ?_
  refine Ze (b_norm (Zt (Zr ?_)))
  refine Xm ?_
  refine Xv rfl (v_addi rfl rfl rfl Zo) ?_
  refine Xa ?_
  refine Ze ?_
  rw [List.append_nil]
  have hsub : (rowO 134 R').Sublist ([(p40, Obj.cells ([[Value.string ⟨#[76, 73, 78]⟩, .slice A27 3 c27], [Value.string ⟨#[82, 70, 70]⟩, .slice A31 1 c31], [Value.string ⟨#[81, 84, 89]⟩, .slice A35 1 c35], [Value.string ⟨#[80, 82, 73]⟩, .slice A39 1 c39]] : List (List Value)).flatten.toArray 134), (p7, Obj.cells ls[k].cells.toArray 25)] ++ rowO 134 R') := List.sublist_append_right _ _
  refine s_fix (rowO 134 R') hsub (fun w0 hm0 => ?_)
  have hmB := hm0.less hsub (fun _ h => h)
  have hT' := snocM (T := tySeg) (D := newD w (rowO 134 R')) (ws := w0) (ys := inv4 k ls[k]) hln hcl (fun j h1 h2 => tySeg.keep (hrd j h1 h2) (Kept.frz hm0 hsub (by simp))) hR' rfl (.cons (tySeg_mk (x := ⟨⟨#[76, 73, 78]⟩, [[itoaS ((k + 1 : Nat) : Int)], [⟨#[]⟩], [recT ls[k].src ls[k].num, ⟨#[83, 82, 86]⟩]]⟩) rfl (show (3 : Nat) ≤ 9223372036854775807 by decide) (hs27.keep (Kept.made hmB (by first | repeat (first | exact List.Mem.head _ | apply List.Mem.tail) | simp) hm27 (hm27.base (by simp)).size))) (.cons (tySeg_mk (x := ⟨⟨#[82, 70, 70]⟩, [[⟨#[79, 78]⟩, itoaS ls[k].id]]⟩) rfl (show (3 : Nat) ≤ 9223372036854775807 by decide) (hs31.keep (Kept.made hmB (by first | repeat (first | exact List.Mem.head _ | apply List.Mem.tail) | simp) hm31 (hm31.base (by simp)).size))) (.cons (tySeg_mk (x := ⟨⟨#[81, 84, 89]⟩, [[⟨#[52, 55]⟩, itoaS ls[k].copies]]⟩) rfl (show (3 : Nat) ≤ 9223372036854775807 by decide) (hs35.keep (Kept.made hmB (by first | repeat (first | exact List.Mem.head _ | apply List.Mem.tail) | simp) hm35 (hm35.base (by simp)).size))) (.cons (tySeg_mk (x := ⟨⟨#[80, 82, 73]⟩, [[⟨#[65, 65, 65]⟩, itoaS ls[k].price]]⟩) rfl (show (3 : Nat) ≤ 9223372036854775807 by decide) (hs39.keep (Kept.made hmB (by first | repeat (first | exact List.Mem.head _ | apply List.Mem.tail) | simp) hm39 (hm39.base (by simp)).size))) .nil))))
  exact l_norm (x := (k, R, ws)) (μ := fun q : Nat × RowS × World => ls.length - q.1) (k + 1, R', w0) ⟨by dsimp only; omega, by dsimp only; rw [linesX_take hkl]; exact hT'⟩ (by simp only; omega) (by dsimp only; rw [show 2 + 4 * (k + 1) = 2 + 4 * k + 4 by omega]; repeat (first | exact Sub.nil | refine Sub.cons rfl ?_)) (fun w1 h => h.less (List.Sublist.refl _) (fun q hq => by simp at hq ⊢; rcases hq with h | h; (· exact .inl h); simp [h]))
 simp only [hb15, Qz, ne_eq] at hc15
 obtain rfl : k = ls.length := by omega
 rw [List.take_length] at hT hln
 refine w_exit ?_
 refine t_exit ?_
 refine t_exit ?_
 refine b_hit ?_
 refine Zt (Zs (Zr ?_))
 refine Xm ?_
 refine x_buildSliceL (cs := [Value.string (⟨#[83]⟩)]) rfl rfl rfl u78 sz9 zr9 rfl rfl rfl ?_
 intro p43
 refine x_call (R := fun v wa wb => ∃ A c, v = .agg #[.string (⟨#[85, 78, 83]⟩), .slice A 1 c] ∧ sliceRd (tySlice tyStr) (fun b => wa.heap.size ≤ b) wb (.slice A 1 c) [[⟨#[83]⟩]]) rfl rfl rfl Tryz.func130 Zk rfl (fun w1 hw1 => (c_one (es := [⟨#[83]⟩]) (D := fun _ => True) ⟨#[85, 78, 83]⟩ w1 (lits_own (T := tyStr) (D := fun _ => True) (e := 9) (b := p43) [[Value.string (⟨#[83]⟩)]] (xs := [⟨#[83]⟩]) hw1 Zh rfl (by simp) trivial ⟨⟨rfl, (okS_small (by decide))⟩, trivial⟩) (by simp)).mono fun e w2 ⟨u, h1, h2, h3⟩ => seg_out h1 h2 h3) fun v44 wa44 wb44 hm44 hl44 hR44 => ?_
 obtain ⟨A44, c44, rfl, hs44⟩ := hR44
 refine Xm ?_
 refine x_call (R := fun v wa wb => ∃ A c, v = .agg #[.string (⟨#[77, 79, 65]⟩), .slice A 1 c] ∧ sliceRd (tySlice tyStr) (fun b => wa.heap.size ≤ b) wb (.slice A 1 c) [[⟨#[56, 54]⟩, t]]) rfl rfl rfl Tryz.func132 Zk rfl (fun w1 hw1 => (c_pair ⟨#[77, 79, 65]⟩ ⟨#[56, 54]⟩ t w1 (okS_small (by decide)) ht).mono fun e w2 ⟨u, h1, h2, h3⟩ => seg_out h1 h2 h3) fun v46 wa46 wb46 hm46 hl46 hR46 => ?_
 obtain ⟨A46, c46, rfl, hs46⟩ := hR46
 refine Xm ?_
 refine Xv rfl (v_len_slice u52 rfl) ?_
 refine Xv rfl (v_muli rfl rfl rfl (by omega)) ?_
 refine Xv rfl (v_addi (c := ((4 * ls.length + 5 : Nat) : Int)) rfl rfl (by omega) (by omega)) ?_
 refine x_callv rfl rfl rfl Tryz.func73 Zk rfl (fun w1 hw1 => c_Dec ((4 * ls.length + 5 : Nat) : Int) w1 (by omega) (by unfold in64; omega)) ?_
 refine x_buildSliceL (cs := [Value.string (itoaS ((4 * ls.length + 5 : Nat) : Int)), Value.string (⟨#[49]⟩)]) rfl rfl rfl u78 sz9 zr9 rfl rfl rfl ?_
 intro p52
 refine x_call (R := fun v wa wb => ∃ A c, v = .agg #[.string (⟨#[85, 78, 84]⟩), .slice A 2 c] ∧ sliceRd (tySlice tyStr) (fun b => wa.heap.size ≤ b) wb (.slice A 2 c) [[itoaS ((4 * ls.length + 5 : Nat) : Int)], [⟨#[49]⟩]]) rfl rfl rfl Tryz.func130 Zk rfl (fun w1 hw1 => (c_one (es := [itoaS ((4 * ls.length + 5 : Nat) : Int), ⟨#[49]⟩]) (D := fun _ => True) ⟨#[85, 78, 84]⟩ w1 (lits_own (T := tyStr) (D := fun _ => True) (e := 9) (b := p52) [[Value.string (itoaS ((4 * ls.length + 5 : Nat) : Int))], [Value.string (⟨#[49]⟩)]] (xs := [itoaS ((4 * ls.length + 5 : Nat) : Int), ⟨#[49]⟩]) hw1 Zh rfl (by simp) trivial ⟨⟨rfl, itoa_ok (by unfold in64; omega)⟩, ⟨rfl, (okS_small (by decide))⟩, trivial⟩) (by simp)).mono fun e w2 ⟨u, h1, h2, h3⟩ => seg_out h1 h2 h3) fun v53 wa53 wb53 hm53 hl53 hR53 => ?_
 obtain ⟨A53, c53, rfl, hs53⟩ := hR53
 refine x_buildSliceL (cs := ([[Value.string ⟨#[85, 78, 83]⟩, .slice A44 1 c44], [Value.string ⟨#[77, 79, 65]⟩, .slice A46 1 c46], [Value.string ⟨#[85, 78, 84]⟩, .slice A53 2 c53]] : List (List Value)).flatten) rfl rfl rfl u56 sz134 zr134 rfl rfl rfl ?_
 intro p54
 obtain ⟨css, hcl, hrow, hrd⟩ := hT
 rw [hln] at hcl hrow
 refine x_append (e := 134) [(p54, _), (p52, _), (p43, _)] (l2 := []) R (len := 2 + 4 * ls.length) (xs := css.flatten) rfl rfl rfl rfl (by rw [List.append_nil]; rfl) hrow u56 ap134 rfl rfl (m := 3) (news := ([[Value.string ⟨#[85, 78, 83]⟩, .slice A44 1 c44], [Value.string ⟨#[77, 79, 65]⟩, .slice A46 1 c46], [Value.string ⟨#[85, 78, 84]⟩, .slice A53 2 c53]] : List (List Value)).flatten) (fun i hi => at_ownL (vs := ([[Value.string ⟨#[85, 78, 83]⟩, .slice A44 1 c44], [Value.string ⟨#[77, 79, 65]⟩, .slice A46 1 c46], [Value.string ⟨#[85, 78, 84]⟩, .slice A53 2 c53]] : List (List Value)).flatten) (.head _) (by rw [Nat.zero_add]; exact List.getElem?_eq_getElem hi)) rfl Zx (by omega) fun R' hR' => ?_
 refine Xa ?_
 refine Ze (Zt (w_ret ?_))
 rw [List.append_nil]
 refine ret1 rfl rfl (fun w' hm => ⟨_, rfl, hm.base (by simp), ?_⟩)
 have hsub := List.sublist_append_right ([(p54, Obj.cells ([[Value.string ⟨#[85, 78, 83]⟩, .slice A44 1 c44], [Value.string ⟨#[77, 79, 65]⟩, .slice A46 1 c46], [Value.string ⟨#[85, 78, 84]⟩, .slice A53 2 c53]] : List (List Value)).flatten.toArray 134), (p52, Obj.cells [Value.string (itoaS ((4 * ls.length + 5 : Nat) : Int)), Value.string (⟨#[49]⟩)].toArray 9), (p43, Obj.cells [Value.string (⟨#[83]⟩)].toArray 9)] : List (Nat × Obj)) (rowO 134 R')
 have hmB := hm.less hsub (fun _ h => h)
 have hT' := snocM (T := tySeg) (D := newD w (rowO 134 R')) (ws := w') (ys := tailX ls.length t) hln hcl (fun j h1 h2 => tySeg.keep (hrd j h1 h2) (Kept.frz hm hsub (by simp))) hR' rfl (.cons (tySeg_mk (x := ⟨⟨#[85, 78, 83]⟩, [[⟨#[83]⟩]]⟩) rfl (show (3 : Nat) ≤ 9223372036854775807 by decide) (hs44.keep (Kept.made hmB (by first | repeat (first | exact List.Mem.head _ | apply List.Mem.tail) | simp) hm44 (hm44.base (by simp)).size))) (.cons (tySeg_mk (x := ⟨⟨#[77, 79, 65]⟩, [[⟨#[56, 54]⟩, t]]⟩) rfl (show (3 : Nat) ≤ 9223372036854775807 by decide) (hs46.keep (Kept.made hmB (by first | repeat (first | exact List.Mem.head _ | apply List.Mem.tail) | simp) hm46 (hm46.base (by simp)).size))) (.cons (tySeg_mk (x := ⟨⟨#[85, 78, 84]⟩, [[itoaS ((4 * ls.length + 5 : Nat) : Int)], [⟨#[49]⟩]]⟩) rfl (show (3 : Nat) ≤ 9223372036854775807 by decide) (hs53.keep (Kept.made hmB (by first | repeat (first | exact List.Mem.head _ | apply List.Mem.tail) | simp) hm53 (hm53.base (by simp)).size))) .nil)))
 exact hT'.rd (e := 134) hmB (fun q hq => hq) (fun _ h => h.1) (fun q hq => hmB.newer (by simp) hq) (by rw [List.length_append, hln]; rfl)
open Go.RowKit Go.PK
theorem ap25 : (Tryz.prog.info? 25).map (fun j => (j.zero, j.size, j.bytes)) = some (some (.agg #[.int .i64 0, .int .i64 0, .int .i64 0, .int .i64 0, .int .i64 0, .int .i64 0, .int .i64 0, .int .i64 0, .int .i64 0]), 9, 72) := by kernel_rfl
theorem lineE_okA (l : List Seg) (k : Nat) : (lineE l k).okA := by
 have z : in64 0 := by unfold in64; decide
 exact ⟨⟨readP_in _, z, readP_in _, readP_in _, readP_in _, readP_in _⟩, z, z, z⟩
theorem c_rInvoice {v : Value} {ls : List PK.Ord} {D : Nat → Prop} (w : World) (hls : sliceRd tyOrd D w v ls)  :
  Calls Tryz.prog 26 #[v] w fun e w' => ∃ q, e = .returned q ∧ Later w w' ∧ sliceRd tySeg (fun b => w.heap.size ≤ b) w' q (invR ls) := by
 obtain ⟨A, cp, rfl, hlc, hmx, _⟩ := id hls
 refine enter (vs := [Value.slice A ls.length cp]) Tryz.func26 rfl Tryz.ntmps26 rfl ?_
 refine Zs (Zr ?_)
 refine Xa ?_
 refine Ze (Zt (Zs (Zr ?_)))
 refine Xm ?_
 refine x_callb rfl rfl rfl Tryz.func71 Zk rfl (fun w1 hw1 => c_Payable w1 (hls.keep (Kept.later (hw1.base (by simp))))) fun b5 hb5 => ?_
 refine Xa ?_
 refine Ze (Zt (Zs (Zs (Zr ?_))))
 refine Xm ?_
 refine Xb rfl (v_not rfl) fun b7 hb7 => ?_
 refine Ze (Zt ?_)
 refine w_cond rfl (fun hc7 => ?_) (fun hc7 => ?_)
 ·have hno : ¬payP ls := by rw [hb7, hb5] at hc7; simpa using hc7
  refine Zs (Zr ?_)
  refine Xa ?_
  refine Ze (Zt (w_ret (t_ret ?_)))
  refine ret1 rfl rfl (fun w' hm => ?_)
  unfold invR
  rw [if_neg hno]
  exact ⟨_, rfl, hm.base (by simp), sliceRd_nil⟩
 have hyes : payP ls := by rw [hb7, hb5] at hc7; simpa using hc7
 obtain ⟨_, y2, y3⟩ := id hyes
 obtain ⟨t1, t2⟩ := total_le y3
 refine w_skip (Zt (Zs (Zr ?_)))
 refine Xm ?_
 refine Xm ?_
 refine x_callv rfl rfl rfl Tryz.func74 Zk rfl (fun w1 hw1 => c_Total w1 (hls.keep (Kept.later (hw1.base (by simp)))) y3 (by omega)) ?_
 refine x_callv rfl rfl rfl Tryz.func73 Zk rfl (fun w1 hw1 => c_Dec (totalP ls) w1 t1 (by unfold in64; omega)) ?_
 refine x_call (R := fun v wa wb => sliceRd tySeg (fun b => wa.heap.size ≤ b) wb v (withX ls (itoaS (totalP ls)))) rfl rfl rfl Tryz.func72 Zk rfl (fun w1 hw1 => (c_With w1 (hls.keep (Kept.later (hw1.base (by simp)))) (itoaS (totalP ls)) y3 (by omega) (itoa_ok (by unfold in64; omega))).mono fun e w2 ⟨v, h1, h2, h3⟩ => ⟨_, h1, h2, h3⟩) fun v12 wa12 wb12 hm12 hl12 hR12 => ?_
 refine Xa ?_
 refine Ze (Zt (w_ret ?_))
 refine ret1 rfl rfl (fun w' hm => ?_)
 unfold invR
 rw [if_pos hyes]
 exact ⟨_, rfl, hm.base (by simp), hR12.keep (Kept.made0 hm hm12 (by simp) (by simp))⟩
open Go.RowKit Go.PK
set_option maxHeartbeats 2000000 in
theorem c_withTotal {v : Value} {ls : List PK.Ord} {D : Nat → Prop} (w : World) (hls : sliceRd tyOrd D w v ls) (n : Int) (hw : ∀ o ∈ ls, wrO (pf o)) (hn : ls.length ≤ 1000) (h0 : 0 ≤ n) (hi : in64 n) (hL : LD w) :
  Calls Tryz.prog 116 #[v, .string (itoaS n)] w fun e w' => ∃ q, e = .returned q ∧ Later w w' ∧ sliceRd tySeg (fun b => w.heap.size ≤ b) w' q (withX ls (itoaS n)) := by
 obtain ⟨A, cp, rfl, hlc, hmx, _⟩ := id hls
 refine enter (vs := [Value.slice A ls.length cp, .string (itoaS n)]) Tryz.func116 rfl Tryz.ntmps116 rfl ?_
 refine Zs (Zr ?_)
 refine Xa ?_
 refine Ze (Zt (Zs (Zr ?_)))
 refine x_buildSliceL (cs := [Value.string (⟨#[49]⟩), Value.string (⟨#[73, 78, 86, 79, 73, 67, 58, 68, 58, 57, 54, 65, 58, 85, 78]⟩)]) rfl rfl rfl u78 sz9 zr9 rfl rfl rfl ?_
 intro p8
 refine x_call (R := fun v wa wb => ∃ A c, v = .agg #[.string ⟨#[85, 78, 72]⟩, .slice A 2 c] ∧ sliceRd (tySlice tyStr) (fun b => wa.heap.size ≤ b) wb (.slice A 2 c) [[⟨#[49]⟩], [⟨#[73, 78, 86, 79, 73, 67]⟩, ⟨#[68]⟩, ⟨#[57, 54, 65]⟩, ⟨#[85, 78]⟩]]) rfl rfl rfl Tryz.func152 Zk rfl (fun w1 hw1 => (c_segment (es := [⟨#[49]⟩, ⟨#[73, 78, 86, 79, 73, 67, 58, 68, 58, 57, 54, 65, 58, 85, 78]⟩]) (D := fun _ => True) ⟨#[85, 78, 72]⟩ w1 (rowS_rd (e := 9) (r := some (p8, [Value.string (⟨#[49]⟩), Value.string (⟨#[73, 78, 86, 79, 73, 67, 58, 68, 58, 57, 54, 65, 58, 85, 78]⟩)], 2)) (n := 2) (rowOK_lit rfl (by decide)) rfl (fun s hs => ok_of (es_unh.2 s hs)) hw1 (fun q hq => by rw [List.mem_singleton.1 hq]; exact Zh) (fun _ _ => trivial)) (fun s hs => Nat.le_trans (es_unh.2 s hs) (by decide)) (by show 2 ≤ 1000; decide) (hL.later (hw1.base (by simp)))).mono fun e w2 ⟨u, h1, h2, h3⟩ => seg_out h1 h2 (es_unh.1 ▸ h3)) fun v9 wa9 wb9 hm9 hl9 hR9 => ?_
 obtain ⟨A9, c9, rfl, hs9⟩ := hR9
 refine x_buildSliceL (cs := [Value.string (⟨#[51, 56, 48]⟩)]) rfl rfl rfl u78 sz9 zr9 rfl rfl rfl ?_
 intro p10
 refine x_call (R := fun v wa wb => ∃ A c, v = .agg #[.string ⟨#[66, 71, 77]⟩, .slice A 1 c] ∧ sliceRd (tySlice tyStr) (fun b => wa.heap.size ≤ b) wb (.slice A 1 c) [[⟨#[51, 56, 48]⟩]]) rfl rfl rfl Tryz.func152 Zk rfl (fun w1 hw1 => (c_segment (es := [⟨#[51, 56, 48]⟩]) (D := fun _ => True) ⟨#[66, 71, 77]⟩ w1 (rowS_rd (e := 9) (r := some (p10, [Value.string (⟨#[51, 56, 48]⟩)], 1)) (n := 1) (rowOK_lit rfl (by decide)) rfl (fun s hs => ok_of (es_bgm.2 s hs)) hw1 (fun q hq => by rw [List.mem_singleton.1 hq]; exact Zh) (fun _ _ => trivial)) (fun s hs => Nat.le_trans (es_bgm.2 s hs) (by decide)) (by show 1 ≤ 1000; decide) (hL.later (hw1.base (by simp)))).mono fun e w2 ⟨u, h1, h2, h3⟩ => seg_out h1 h2 (es_bgm.1 ▸ h3)) fun v11 wa11 wb11 hm11 hl11 hR11 => ?_
 obtain ⟨A11, c11, rfl, hs11⟩ := hR11
 refine x_buildSliceL (cs := ([[Value.string ⟨#[85, 78, 72]⟩, .slice A9 2 c9], [Value.string ⟨#[66, 71, 77]⟩, .slice A11 1 c11]] : List (List Value)).flatten) rfl rfl rfl u56 sz134 zr134 rfl rfl rfl ?_
 intro p12
 refine Xa ?_
 refine Ze (Zt (Zs (Zs (Zr ?_))))
 refine Xm ?_
 refine Xv rfl (v_len_slice u52 rfl) ?_
 refine Xm ?_
 refine Ze (Zt (w_block ?_))
 refine w_fix (rowO 134 (some (p12, ([[Value.string ⟨#[85, 78, 72]⟩, .slice A9 2 c9], [Value.string ⟨#[66, 71, 77]⟩, .slice A11 1 c11]] : List (List Value)).flatten, 2))) (List.Sublist.cons_cons _ (List.nil_sublist _)) (fun w0 hm0 => ?_)
 have hmB := hm0.less (own' := rowO 134 (some (p12, ([[Value.string ⟨#[85, 78, 72]⟩, .slice A9 2 c9], [Value.string ⟨#[66, 71, 77]⟩, .slice A11 1 c11]] : List (List Value)).flatten, 2))) (List.Sublist.cons_cons _ (List.nil_sublist _)) (fun _ h => h)
 have hT0 : RowT tySeg (newD w (rowO 134 (some (p12, ([[Value.string ⟨#[85, 78, 72]⟩, .slice A9 2 c9], [Value.string ⟨#[66, 71, 77]⟩, .slice A11 1 c11]] : List (List Value)).flatten, 2)))) w0 (some (p12, ([[Value.string ⟨#[85, 78, 72]⟩, .slice A9 2 c9], [Value.string ⟨#[66, 71, 77]⟩, .slice A11 1 c11]] : List (List Value)).flatten, 2)) (headX ++ linesX 0 (ls.take 0)) := snocM (T := tySeg) (xs := []) (css := []) (css' := [[Value.string ⟨#[85, 78, 72]⟩, .slice A9 2 c9], [Value.string ⟨#[66, 71, 77]⟩, .slice A11 1 c11]]) (m := 2) (n := 0) rfl rfl (fun j h => absurd h (Nat.not_lt_zero _)) (rowOK_lit rfl (by decide)) rfl (.cons (tySeg_mk (x := ⟨⟨#[85, 78, 72]⟩, [[⟨#[49]⟩], [⟨#[73, 78, 86, 79, 73, 67]⟩, ⟨#[68]⟩, ⟨#[57, 54, 65]⟩, ⟨#[85, 78]⟩]]⟩) rfl (show (3 : Nat) ≤ 9223372036854775807 by decide) (hs9.keep (Kept.made hmB (by first | repeat (first | exact List.Mem.head _ | apply List.Mem.tail) | simp) hm9 (hm9.base (by simp)).size))) (.cons (tySeg_mk (x := ⟨⟨#[66, 71, 77]⟩, [[⟨#[51, 56, 48]⟩]]⟩) rfl (show (3 : Nat) ≤ 9223372036854775807 by decide) (hs11.keep (Kept.made hmB (by first | repeat (first | exact List.Mem.head _ | apply List.Mem.tail) | simp) hm11 (hm11.base (by simp)).size))) .nil))
 refine w_loop (σ := Nat × RowS × World) (fun x => x.1 ≤ ls.length ∧ RowT tySeg (newD w (rowO 134 x.2.1)) x.2.2 x.2.1 (headX ++ linesX 0 (ls.take x.1))) (fun x => [(1, Value.string (itoaS n)), (0, Value.slice A ls.length cp), (13, Value.slice A ls.length cp), (14, Value.int .i64 (ls.length : Nat)), (5, rowV x.2.1 (2 + 4 * x.1)), (15, Value.int .i64 (x.1 : Nat))]) (fun x => rowO 134 x.2.1) (fun x => (x.2.2, notOwn (rowO 134 x.2.1)) :: [(w, fun _ => True)]) (fun x => ls.length - x.1) ((0, (some (p12, ([[Value.string ⟨#[85, 78, 72]⟩, .slice A9 2 c9], [Value.string ⟨#[66, 71, 77]⟩, .slice A11 1 c11]] : List (List Value)).flatten, 2)), w0)) (⟨Nat.zero_le _, hT0⟩) (l_start Zu (fun _ h => h.less (List.Sublist.refl _) (fun q hq => by simp at hq ⊢; rcases hq with h | h; (· exact .inl h); simp [h]))) ?_
 rintro ⟨k, R, ws⟩ ⟨hk, hT⟩
 refine w_state ([(1, Value.string (itoaS n)), (0, Value.slice A ls.length cp), (13, Value.slice A ls.length cp), (14, Value.int .i64 (ls.length : Nat)), (5, rowV R (2 + 4 * k)), (15, Value.int .i64 (k : Nat))]) (rowO 134 R) ((ws, notOwn (rowO 134 R)) :: [(w, fun _ => True)]) ?_
 dsimp only at hk hT
 have hln := hl_len hk
 refine Zs (Zr ?_)
 refine Xb rfl (v_lss rfl rfl) fun b16 hb16 => ?_
 refine Ze (Zt (Zs ?_))
 refine w_cond rfl (fun hc16 => ?_) (fun hc16 => ?_)
 ·simp only [hb16, Qz, ne_eq] at hc16
  have hkl : k < ls.length := by omega
  obtain ⟨ob, oo, hA, _, hc, hoA⟩ := ord_at hls hkl
  obtain ⟨_, _, ⟨r1, r2⟩, ⟨r3, r4⟩, ⟨r5, r6⟩, ⟨r7, r8⟩, r9, r10⟩ := line_rng (hw ls[k] (List.getElem_mem hkl))
  obtain ⟨⟨i1, _, i3, i4, i5, i6⟩, _⟩ := id hoA
  have ik : in64 ((k + 1 : Nat) : Int) := by unfold in64; omega
  have z1 := itoaS_size i1
  have z5 := itoaS_size i5
  have z6 := itoaS_size i6
  have q27 := es_lin (n := ((k + 1 : Nat) : Int)) (o := ls[k]) (by omega) ik r3 r5 i3 i4
  have q33 := es_p3 (a := 79) (b := 78) r1 i1 (by decide) (by decide)
  have q39 := es_p3 (a := 52) (b := 55) r7 i5 (by decide) (by decide)
  have q45 := es_p4 (a := 65) (b := 65) (d := 65) r9 i6 (by decide) (by decide) (by decide)
  refine w_skip (Zt (Zs (w_block (Zs (Zr ?_)))))
  refine Xm ?_
  refine Xv rfl (v_indexAddr u52 sz25 (congrArg (fun A => some (Value.slice A ls.length cp)) hA) rfl (hkl) rfl) ?_
  refine Xv rfl (v_loadN (vs := ls[k].cells) u25 rfl sz25 rfl (fun j hj => at_ro (.tail _ (.head _)) trivial (hc j hj))) ?_
  refine x_alloc rfl rfl rfl zr25 ?_
  intro p7
  refine Xa ?_
  refine x_store0 [] rfl rfl rfl rfl sz25 rfl rfl ?_
  refine Ze (Zt ?_)
  refine rg_draw 28 [(true, 0), (true, 1), (true, 2), (true, 3), (true, 4), (true, 5), (true, 6), (true, 9), (true, 10), (true, 15), (true, 16), (true, 21), (true, 22), (false, 7), (false, 8), (true, 11), (true, 12), (false, 13), (false, 14), (true, 17), (true, 18), (false, 19), (false, 20), (true, 23), (true, 24), (false, 25), (false, 26), (false, 27)] Zk Zk ?_
  refine Xm ?_
  refine Xm ?_
  refine Xv rfl (v_addi (c := ((k + 1 : Nat) : Int)) rfl rfl (by omega) (by omega)) ?_
  refine x_callv rfl rfl rfl Tryz.func115 Zk rfl (fun w1 hw1 => c_number ((k + 1 : Nat) : Int) w1 ik (hL.later (hw1.base (by simp)))) ?_
  refine Xv rfl (v_fieldAddr (off' := 2) u25 rfl sz23 (by decide) rfl rfl) ?_
  refine Xv rfl (v_loadN (vs := [Value.int .i64 ls[k].src, .int .i64 ls[k].num]) u23 rfl sz23 rfl (fun j hj => at_ownL (vs := ls[k].cells) Zh (by match j, hj with | 0, _ => rfl | 1, _ => rfl))) ?_
  refine x_callv rfl rfl rfl Tryz.func153 Zk rfl (fun w1 hw1 => c_article ls[k].src ls[k].num w1 i3 i4 (hL.later (hw1.base (by simp)))) ?_
  refine Xv rfl (v_fieldAddr (off' := 0) u25 rfl sz3 (by decide) rfl rfl) ?_
  refine Xv rfl (v_load u3 rfl rfl (at_ownL (vs := ls[k].cells) Zh rfl)) ?_
  refine Xv rfl (v_fieldAddr (off' := 4) u25 rfl sz3 (by decide) rfl rfl) ?_
  refine Xv rfl (v_load u3 rfl rfl (at_ownL (vs := ls[k].cells) Zh rfl)) ?_
  refine Xv rfl (v_fieldAddr (off' := 5) u25 rfl sz3 (by decide) rfl rfl) ?_
  refine Xv rfl (v_load u3 rfl rfl (at_ownL (vs := ls[k].cells) Zh rfl)) ?_
  refine x_buildSliceL (cs := [Value.string (itoaS ((k + 1 : Nat) : Int)), Value.string (⟨#[]⟩), Value.string (artS ls[k].src ls[k].num)]) rfl rfl rfl u78 sz9 zr9 rfl rfl rfl ?_
  intro p27
  refine x_call (R := fun v wa wb => ∃ A c, v = .agg #[.string ⟨#[76, 73, 78]⟩, .slice A 3 c] ∧ sliceRd (tySlice tyStr) (fun b => wa.heap.size ≤ b) wb (.slice A 3 c) [[itoaS ((k + 1 : Nat) : Int)], [⟨#[]⟩], [recT ls[k].src ls[k].num, ⟨#[83, 82, 86]⟩]]) rfl rfl rfl Tryz.func152 Zk rfl (fun w1 hw1 => (c_segment (es := [itoaS ((k + 1 : Nat) : Int), ⟨#[]⟩, artS ls[k].src ls[k].num]) (D := fun _ => True) ⟨#[76, 73, 78]⟩ w1 (rowS_rd (e := 9) (r := some (p27, [Value.string (itoaS ((k + 1 : Nat) : Int)), Value.string (⟨#[]⟩), Value.string (artS ls[k].src ls[k].num)], 3)) (n := 3) (rowOK_lit rfl (by decide)) rfl (fun s hs => ok_of (q27.2 s hs)) hw1 (fun q hq => by rw [List.mem_singleton.1 hq]; exact Zh) (fun _ _ => trivial)) (fun s hs => Nat.le_trans (q27.2 s hs) (by decide)) (by show 3 ≤ 1000; decide) (hL.later (hw1.base (by simp)))).mono fun e w2 ⟨u, h1, h2, h3⟩ => seg_out h1 h2 (q27.1 ▸ h3)) fun v28 wa28 wb28 hm28 hl28 hR28 => ?_
  obtain ⟨A28, c28, rfl, hs28⟩ := hR28
  refine x_callv rfl rfl rfl Tryz.func115 Zk rfl (fun w1 hw1 => c_number ls[k].id w1 i1 (hL.later (hw1.base (by simp)))) ?_
  refine Xv rfl (v_sadd rfl rfl (by show 3 + (itoaS _).size ≤ _; omega)) ?_
  refine x_buildSliceL (cs := [Value.string ((⟨#[79, 78, 58]⟩ : ByteArray) ++ itoaS ls[k].id)]) rfl rfl rfl u78 sz9 zr9 rfl rfl rfl ?_
  intro p33
  refine x_call (R := fun v wa wb => ∃ A c, v = .agg #[.string ⟨#[82, 70, 70]⟩, .slice A 1 c] ∧ sliceRd (tySlice tyStr) (fun b => wa.heap.size ≤ b) wb (.slice A 1 c) [[⟨#[79, 78]⟩, itoaS ls[k].id]]) rfl rfl rfl Tryz.func152 Zk rfl (fun w1 hw1 => (c_segment (es := [(⟨#[79, 78, 58]⟩ : ByteArray) ++ itoaS ls[k].id]) (D := fun _ => True) ⟨#[82, 70, 70]⟩ w1 (rowS_rd (e := 9) (r := some (p33, [Value.string ((⟨#[79, 78, 58]⟩ : ByteArray) ++ itoaS ls[k].id)], 1)) (n := 1) (rowOK_lit rfl (by decide)) rfl (fun s hs => ok_of (q33.2 s hs)) hw1 (fun q hq => by rw [List.mem_singleton.1 hq]; exact Zh) (fun _ _ => trivial)) (fun s hs => Nat.le_trans (q33.2 s hs) (by decide)) (by show 1 ≤ 1000; decide) (hL.later (hw1.base (by simp)))).mono fun e w2 ⟨u, h1, h2, h3⟩ => seg_out h1 h2 (q33.1 ▸ h3)) fun v34 wa34 wb34 hm34 hl34 hR34 => ?_
  obtain ⟨A34, c34, rfl, hs34⟩ := hR34
  refine x_callv rfl rfl rfl Tryz.func115 Zk rfl (fun w1 hw1 => c_number ls[k].copies w1 i5 (hL.later (hw1.base (by simp)))) ?_
  refine Xv rfl (v_sadd rfl rfl (by show 3 + (itoaS _).size ≤ _; omega)) ?_
  refine x_buildSliceL (cs := [Value.string ((⟨#[52, 55, 58]⟩ : ByteArray) ++ itoaS ls[k].copies)]) rfl rfl rfl u78 sz9 zr9 rfl rfl rfl ?_
  intro p39
  refine x_call (R := fun v wa wb => ∃ A c, v = .agg #[.string ⟨#[81, 84, 89]⟩, .slice A 1 c] ∧ sliceRd (tySlice tyStr) (fun b => wa.heap.size ≤ b) wb (.slice A 1 c) [[⟨#[52, 55]⟩, itoaS ls[k].copies]]) rfl rfl rfl Tryz.func152 Zk rfl (fun w1 hw1 => (c_segment (es := [(⟨#[52, 55, 58]⟩ : ByteArray) ++ itoaS ls[k].copies]) (D := fun _ => True) ⟨#[81, 84, 89]⟩ w1 (rowS_rd (e := 9) (r := some (p39, [Value.string ((⟨#[52, 55, 58]⟩ : ByteArray) ++ itoaS ls[k].copies)], 1)) (n := 1) (rowOK_lit rfl (by decide)) rfl (fun s hs => ok_of (q39.2 s hs)) hw1 (fun q hq => by rw [List.mem_singleton.1 hq]; exact Zh) (fun _ _ => trivial)) (fun s hs => Nat.le_trans (q39.2 s hs) (by decide)) (by show 1 ≤ 1000; decide) (hL.later (hw1.base (by simp)))).mono fun e w2 ⟨u, h1, h2, h3⟩ => seg_out h1 h2 (q39.1 ▸ h3)) fun v40 wa40 wb40 hm40 hl40 hR40 => ?_
  obtain ⟨A40, c40, rfl, hs40⟩ := hR40
  refine x_callv rfl rfl rfl Tryz.func115 Zk rfl (fun w1 hw1 => c_number ls[k].price w1 i6 (hL.later (hw1.base (by simp)))) ?_
  refine Xv rfl (v_sadd rfl rfl (by show 4 + (itoaS _).size ≤ _; omega)) ?_
  refine x_buildSliceL (cs := [Value.string ((⟨#[65, 65, 65, 58]⟩ : ByteArray) ++ itoaS ls[k].price)]) rfl rfl rfl u78 sz9 zr9 rfl rfl rfl ?_
  intro p45
  refine x_call (R := fun v wa wb => ∃ A c, v = .agg #[.string ⟨#[80, 82, 73]⟩, .slice A 1 c] ∧ sliceRd (tySlice tyStr) (fun b => wa.heap.size ≤ b) wb (.slice A 1 c) [[⟨#[65, 65, 65]⟩, itoaS ls[k].price]]) rfl rfl rfl Tryz.func152 Zk rfl (fun w1 hw1 => (c_segment (es := [(⟨#[65, 65, 65, 58]⟩ : ByteArray) ++ itoaS ls[k].price]) (D := fun _ => True) ⟨#[80, 82, 73]⟩ w1 (rowS_rd (e := 9) (r := some (p45, [Value.string ((⟨#[65, 65, 65, 58]⟩ : ByteArray) ++ itoaS ls[k].price)], 1)) (n := 1) (rowOK_lit rfl (by decide)) rfl (fun s hs => ok_of (q45.2 s hs)) hw1 (fun q hq => by rw [List.mem_singleton.1 hq]; exact Zh) (fun _ _ => trivial)) (fun s hs => Nat.le_trans (q45.2 s hs) (by decide)) (by show 1 ≤ 1000; decide) (hL.later (hw1.base (by simp)))).mono fun e w2 ⟨u, h1, h2, h3⟩ => seg_out h1 h2 (q45.1 ▸ h3)) fun v46 wa46 wb46 hm46 hl46 hR46 => ?_
  obtain ⟨A46, c46, rfl, hs46⟩ := hR46
  refine x_buildSliceL (cs := ([[Value.string ⟨#[76, 73, 78]⟩, .slice A28 3 c28], [Value.string ⟨#[82, 70, 70]⟩, .slice A34 1 c34], [Value.string ⟨#[81, 84, 89]⟩, .slice A40 1 c40], [Value.string ⟨#[80, 82, 73]⟩, .slice A46 1 c46]] : List (List Value)).flatten) rfl rfl rfl u56 sz134 zr134 rfl rfl rfl ?_
  intro p47
  obtain ⟨css, hcl, hrow, hrd⟩ := hT
  rw [hln] at hcl hrow
  refine x_append (e := 134) [(p47, Obj.cells ([[Value.string ⟨#[76, 73, 78]⟩, .slice A28 3 c28], [Value.string ⟨#[82, 70, 70]⟩, .slice A34 1 c34], [Value.string ⟨#[81, 84, 89]⟩, .slice A40 1 c40], [Value.string ⟨#[80, 82, 73]⟩, .slice A46 1 c46]] : List (List Value)).flatten.toArray 134), (p45, Obj.cells [Value.string ((⟨#[65, 65, 65, 58]⟩ : ByteArray) ++ itoaS ls[k].price)].toArray 9), (p39, Obj.cells [Value.string ((⟨#[52, 55, 58]⟩ : ByteArray) ++ itoaS ls[k].copies)].toArray 9), (p33, Obj.cells [Value.string ((⟨#[79, 78, 58]⟩ : ByteArray) ++ itoaS ls[k].id)].toArray 9), (p27, Obj.cells [Value.string (itoaS ((k + 1 : Nat) : Int)), Value.string (⟨#[]⟩), Value.string (artS ls[k].src ls[k].num)].toArray 9), (p7, Obj.cells ls[k].cells.toArray 25)] (l2 := []) R (len := 2 + 4 * k) (xs := css.flatten) rfl rfl rfl rfl (by rw [List.append_nil]; rfl) hrow u56 ap134 rfl rfl (m := 4) (news := ([[Value.string ⟨#[76, 73, 78]⟩, .slice A28 3 c28], [Value.string ⟨#[82, 70, 70]⟩, .slice A34 1 c34], [Value.string ⟨#[81, 84, 89]⟩, .slice A40 1 c40], [Value.string ⟨#[80, 82, 73]⟩, .slice A46 1 c46]] : List (List Value)).flatten) (fun i hi => at_ownL (vs := ([[Value.string ⟨#[76, 73, 78]⟩, .slice A28 3 c28], [Value.string ⟨#[82, 70, 70]⟩, .slice A34 1 c34], [Value.string ⟨#[81, 84, 89]⟩, .slice A40 1 c40], [Value.string ⟨#[80, 82, 73]⟩, .slice A46 1 c46]] : List (List Value)).flatten) (.head _) (by rw [Nat.zero_add]; exact List.getElem?_eq_getElem hi)) rfl Zx (by omega) fun R' hR' => ?_
  refine Xa ?_
  refine Ze (b_norm (Zt (Zr ?_)))
  refine Xv rfl (v_addi rfl rfl rfl Zo) ?_
  refine Xm ?_
  refine Ze ?_
  rw [List.append_nil]
  have hsub : (rowO 134 R').Sublist ([(p47, Obj.cells ([[Value.string ⟨#[76, 73, 78]⟩, .slice A28 3 c28], [Value.string ⟨#[82, 70, 70]⟩, .slice A34 1 c34], [Value.string ⟨#[81, 84, 89]⟩, .slice A40 1 c40], [Value.string ⟨#[80, 82, 73]⟩, .slice A46 1 c46]] : List (List Value)).flatten.toArray 134), (p45, Obj.cells [Value.string ((⟨#[65, 65, 65, 58]⟩ : ByteArray) ++ itoaS ls[k].price)].toArray 9), (p39, Obj.cells [Value.string ((⟨#[52, 55, 58]⟩ : ByteArray) ++ itoaS ls[k].copies)].toArray 9), (p33, Obj.cells [Value.string ((⟨#[79, 78, 58]⟩ : ByteArray) ++ itoaS ls[k].id)].toArray 9), (p27, Obj.cells [Value.string (itoaS ((k + 1 : Nat) : Int)), Value.string (⟨#[]⟩), Value.string (artS ls[k].src ls[k].num)].toArray 9), (p7, Obj.cells ls[k].cells.toArray 25)] ++ rowO 134 R') := List.sublist_append_right _ _
  refine s_fix (rowO 134 R') hsub (fun w0 hm0 => ?_)
  have hmB := hm0.less hsub (fun _ h => h)
  have hT' := snocM (T := tySeg) (D := newD w (rowO 134 R')) (ws := w0) (ys := inv4 k ls[k]) hln hcl (fun j h1 h2 => tySeg.keep (hrd j h1 h2) (Kept.frz hm0 hsub (by simp))) hR' rfl (.cons (tySeg_mk (x := ⟨⟨#[76, 73, 78]⟩, [[itoaS ((k + 1 : Nat) : Int)], [⟨#[]⟩], [recT ls[k].src ls[k].num, ⟨#[83, 82, 86]⟩]]⟩) rfl (show (3 : Nat) ≤ 9223372036854775807 by decide) (hs28.keep (Kept.made hmB (by first | repeat (first | exact List.Mem.head _ | apply List.Mem.tail) | simp) hm28 (hm28.base (by simp)).size))) (.cons (tySeg_mk (x := ⟨⟨#[82, 70, 70]⟩, [[⟨#[79, 78]⟩, itoaS ls[k].id]]⟩) rfl (show (3 : Nat) ≤ 9223372036854775807 by decide) (hs34.keep (Kept.made hmB (by first | repeat (first | exact List.Mem.head _ | apply List.Mem.tail) | simp) hm34 (hm34.base (by simp)).size))) (.cons (tySeg_mk (x := ⟨⟨#[81, 84, 89]⟩, [[⟨#[52, 55]⟩, itoaS ls[k].copies]]⟩) rfl (show (3 : Nat) ≤ 9223372036854775807 by decide) (hs40.keep (Kept.made hmB (by first | repeat (first | exact List.Mem.head _ | apply List.Mem.tail) | simp) hm40 (hm40.base (by simp)).size))) (.cons (tySeg_mk (x := ⟨⟨#[80, 82, 73]⟩, [[⟨#[65, 65, 65]⟩, itoaS ls[k].price]]⟩) rfl (show (3 : Nat) ≤ 9223372036854775807 by decide) (hs46.keep (Kept.made hmB (by first | repeat (first | exact List.Mem.head _ | apply List.Mem.tail) | simp) hm46 (hm46.base (by simp)).size))) .nil))))
  exact l_norm (x := (k, R, ws)) (μ := fun q : Nat × RowS × World => ls.length - q.1) (k + 1, R', w0) ⟨by dsimp only; omega, by dsimp only; rw [linesX_take hkl]; exact hT'⟩ (by simp only; omega) (by dsimp only; rw [show 2 + 4 * (k + 1) = 2 + 4 * k + 4 by omega]; repeat (first | exact Sub.nil | refine Sub.cons rfl ?_)) (fun w1 h => h.less (List.Sublist.refl _) (fun q hq => by simp at hq ⊢; rcases hq with h | h; (· exact .inl h); simp [h]))
 simp only [hb16, Qz, ne_eq] at hc16
 obtain rfl : k = ls.length := by omega
 rw [List.take_length] at hT hln
 have q55 := es_p3 (a := 56) (b := 54) h0 hi (by decide) (by decide)
 have i61 : in64 ((4 * ls.length + 5 : Nat) : Int) := by unfold in64; omega
 have q61 := es_unt (n := ((4 * ls.length + 5 : Nat) : Int)) (by omega) i61
 refine w_exit ?_
 refine t_exit ?_
 refine t_exit ?_
 refine b_hit ?_
 refine Zt (Zs (Zr ?_))
 refine Xm ?_
 refine x_buildSliceL (cs := [Value.string (⟨#[83]⟩)]) rfl rfl rfl u78 sz9 zr9 rfl rfl rfl ?_
 intro p51
 refine x_call (R := fun v wa wb => ∃ A c, v = .agg #[.string ⟨#[85, 78, 83]⟩, .slice A 1 c] ∧ sliceRd (tySlice tyStr) (fun b => wa.heap.size ≤ b) wb (.slice A 1 c) [[⟨#[83]⟩]]) rfl rfl rfl Tryz.func152 Zk rfl (fun w1 hw1 => (c_segment (es := [⟨#[83]⟩]) (D := fun _ => True) ⟨#[85, 78, 83]⟩ w1 (rowS_rd (e := 9) (r := some (p51, [Value.string (⟨#[83]⟩)], 1)) (n := 1) (rowOK_lit rfl (by decide)) rfl (fun s hs => ok_of (es_uns.2 s hs)) hw1 (fun q hq => by rw [List.mem_singleton.1 hq]; exact Zh) (fun _ _ => trivial)) (fun s hs => Nat.le_trans (es_uns.2 s hs) (by decide)) (by show 1 ≤ 1000; decide) (hL.later (hw1.base (by simp)))).mono fun e w2 ⟨u, h1, h2, h3⟩ => seg_out h1 h2 (es_uns.1 ▸ h3)) fun v52 wa52 wb52 hm52 hl52 hR52 => ?_
 obtain ⟨A52, c52, rfl, hs52⟩ := hR52
 refine Xm ?_
 refine Xv rfl (v_sadd rfl rfl (by have := itoaS_size hi; show 3 + (itoaS _).size ≤ _; omega)) ?_
 refine x_buildSliceL (cs := [Value.string ((⟨#[56, 54, 58]⟩ : ByteArray) ++ itoaS n)]) rfl rfl rfl u78 sz9 zr9 rfl rfl rfl ?_
 intro p55
 refine x_call (R := fun v wa wb => ∃ A c, v = .agg #[.string ⟨#[77, 79, 65]⟩, .slice A 1 c] ∧ sliceRd (tySlice tyStr) (fun b => wa.heap.size ≤ b) wb (.slice A 1 c) [[⟨#[56, 54]⟩, itoaS n]]) rfl rfl rfl Tryz.func152 Zk rfl (fun w1 hw1 => (c_segment (es := [(⟨#[56, 54, 58]⟩ : ByteArray) ++ itoaS n]) (D := fun _ => True) ⟨#[77, 79, 65]⟩ w1 (rowS_rd (e := 9) (r := some (p55, [Value.string ((⟨#[56, 54, 58]⟩ : ByteArray) ++ itoaS n)], 1)) (n := 1) (rowOK_lit rfl (by decide)) rfl (fun s hs => ok_of (q55.2 s hs)) hw1 (fun q hq => by rw [List.mem_singleton.1 hq]; exact Zh) (fun _ _ => trivial)) (fun s hs => Nat.le_trans (q55.2 s hs) (by decide)) (by show 1 ≤ 1000; decide) (hL.later (hw1.base (by simp)))).mono fun e w2 ⟨u, h1, h2, h3⟩ => seg_out h1 h2 (q55.1 ▸ h3)) fun v56 wa56 wb56 hm56 hl56 hR56 => ?_
 obtain ⟨A56, c56, rfl, hs56⟩ := hR56
 refine Xm ?_
 refine Xv rfl (v_len_slice u56 rfl) ?_
 refine Xv rfl (v_addi (c := ((4 * ls.length + 5 : Nat) : Int)) rfl rfl (by omega) (by omega)) ?_
 refine x_callv rfl rfl rfl Tryz.func115 Zk rfl (fun w1 hw1 => c_number ((4 * ls.length + 5 : Nat) : Int) w1 i61 (hL.later (hw1.base (by simp)))) ?_
 refine x_buildSliceL (cs := [Value.string (itoaS ((4 * ls.length + 5 : Nat) : Int)), Value.string (⟨#[49]⟩)]) rfl rfl rfl u78 sz9 zr9 rfl rfl rfl ?_
 intro p61
 refine x_call (R := fun v wa wb => ∃ A c, v = .agg #[.string ⟨#[85, 78, 84]⟩, .slice A 2 c] ∧ sliceRd (tySlice tyStr) (fun b => wa.heap.size ≤ b) wb (.slice A 2 c) [[itoaS ((4 * ls.length + 5 : Nat) : Int)], [⟨#[49]⟩]]) rfl rfl rfl Tryz.func152 Zk rfl (fun w1 hw1 => (c_segment (es := [itoaS ((4 * ls.length + 5 : Nat) : Int), ⟨#[49]⟩]) (D := fun _ => True) ⟨#[85, 78, 84]⟩ w1 (rowS_rd (e := 9) (r := some (p61, [Value.string (itoaS ((4 * ls.length + 5 : Nat) : Int)), Value.string (⟨#[49]⟩)], 2)) (n := 2) (rowOK_lit rfl (by decide)) rfl (fun s hs => ok_of (q61.2 s hs)) hw1 (fun q hq => by rw [List.mem_singleton.1 hq]; exact Zh) (fun _ _ => trivial)) (fun s hs => Nat.le_trans (q61.2 s hs) (by decide)) (by show 2 ≤ 1000; decide) (hL.later (hw1.base (by simp)))).mono fun e w2 ⟨u, h1, h2, h3⟩ => seg_out h1 h2 (q61.1 ▸ h3)) fun v62 wa62 wb62 hm62 hl62 hR62 => ?_
 obtain ⟨A62, c62, rfl, hs62⟩ := hR62
 refine x_buildSliceL (cs := ([[Value.string ⟨#[85, 78, 83]⟩, .slice A52 1 c52], [Value.string ⟨#[77, 79, 65]⟩, .slice A56 1 c56], [Value.string ⟨#[85, 78, 84]⟩, .slice A62 2 c62]] : List (List Value)).flatten) rfl rfl rfl u56 sz134 zr134 rfl rfl rfl ?_
 intro p63
 obtain ⟨css, hcl, hrow, hrd⟩ := hT
 rw [hln] at hcl hrow
 refine x_append (e := 134) [(p63, Obj.cells ([[Value.string ⟨#[85, 78, 83]⟩, .slice A52 1 c52], [Value.string ⟨#[77, 79, 65]⟩, .slice A56 1 c56], [Value.string ⟨#[85, 78, 84]⟩, .slice A62 2 c62]] : List (List Value)).flatten.toArray 134), (p61, Obj.cells [Value.string (itoaS ((4 * ls.length + 5 : Nat) : Int)), Value.string (⟨#[49]⟩)].toArray 9), (p55, Obj.cells [Value.string ((⟨#[56, 54, 58]⟩ : ByteArray) ++ itoaS n)].toArray 9), (p51, Obj.cells [Value.string (⟨#[83]⟩)].toArray 9)] (l2 := []) R (len := 2 + 4 * ls.length) (xs := css.flatten) rfl rfl rfl rfl (by rw [List.append_nil]; rfl) hrow u56 ap134 rfl rfl (m := 3) (news := ([[Value.string ⟨#[85, 78, 83]⟩, .slice A52 1 c52], [Value.string ⟨#[77, 79, 65]⟩, .slice A56 1 c56], [Value.string ⟨#[85, 78, 84]⟩, .slice A62 2 c62]] : List (List Value)).flatten) (fun i hi => at_ownL (vs := ([[Value.string ⟨#[85, 78, 83]⟩, .slice A52 1 c52], [Value.string ⟨#[77, 79, 65]⟩, .slice A56 1 c56], [Value.string ⟨#[85, 78, 84]⟩, .slice A62 2 c62]] : List (List Value)).flatten) (.head _) (by rw [Nat.zero_add]; exact List.getElem?_eq_getElem hi)) rfl Zx (by omega) fun R' hR' => ?_
 refine Xa ?_
 refine Ze (Zt (w_ret ?_))
 rw [List.append_nil]
 refine ret1 rfl rfl (fun w' hm => ⟨_, rfl, hm.base (by simp), ?_⟩)
 have hsub := List.sublist_append_right ([(p63, Obj.cells ([[Value.string ⟨#[85, 78, 83]⟩, .slice A52 1 c52], [Value.string ⟨#[77, 79, 65]⟩, .slice A56 1 c56], [Value.string ⟨#[85, 78, 84]⟩, .slice A62 2 c62]] : List (List Value)).flatten.toArray 134), (p61, Obj.cells [Value.string (itoaS ((4 * ls.length + 5 : Nat) : Int)), Value.string (⟨#[49]⟩)].toArray 9), (p55, Obj.cells [Value.string ((⟨#[56, 54, 58]⟩ : ByteArray) ++ itoaS n)].toArray 9), (p51, Obj.cells [Value.string (⟨#[83]⟩)].toArray 9)] : List (Nat × Obj)) (rowO 134 R')
 have hmB := hm.less hsub (fun _ h => h)
 have hT' := snocM (T := tySeg) (D := newD w (rowO 134 R')) (ws := w') (ys := tailX ls.length (itoaS n)) hln hcl (fun j h1 h2 => tySeg.keep (hrd j h1 h2) (Kept.frz hm hsub (by simp))) hR' rfl (.cons (tySeg_mk (x := ⟨⟨#[85, 78, 83]⟩, [[⟨#[83]⟩]]⟩) rfl (show (3 : Nat) ≤ 9223372036854775807 by decide) (hs52.keep (Kept.made hmB (by first | repeat (first | exact List.Mem.head _ | apply List.Mem.tail) | simp) hm52 (hm52.base (by simp)).size))) (.cons (tySeg_mk (x := ⟨⟨#[77, 79, 65]⟩, [[⟨#[56, 54]⟩, itoaS n]]⟩) rfl (show (3 : Nat) ≤ 9223372036854775807 by decide) (hs56.keep (Kept.made hmB (by first | repeat (first | exact List.Mem.head _ | apply List.Mem.tail) | simp) hm56 (hm56.base (by simp)).size))) (.cons (tySeg_mk (x := ⟨⟨#[85, 78, 84]⟩, [[itoaS ((4 * ls.length + 5 : Nat) : Int)], [⟨#[49]⟩]]⟩) rfl (show (3 : Nat) ≤ 9223372036854775807 by decide) (hs62.keep (Kept.made hmB (by first | repeat (first | exact List.Mem.head _ | apply List.Mem.tail) | simp) hm62 (hm62.base (by simp)).size))) .nil)))
 exact hT'.rd (e := 134) hmB (fun q hq => hq) (fun _ h => h.1) (fun q hq => hmB.newer (by simp) hq) (by rw [List.length_append, hln]; rfl)
theorem c_withTotalT {v : Value} {ls : List PK.Ord} {D : Nat → Prop} (w : World) (hls : sliceRd tyOrd D w v ls) (n : Int) {t : ByteArray} (hw : ∀ o ∈ ls, wrO (pf o)) (hn : ls.length ≤ 1000) (h0 : 0 ≤ n) (hi : in64 n) (hL : LD w) (ht : itoaS n = t) : Calls Tryz.prog 116 #[v, .string t] w fun e w' => ∃ q, e = .returned q ∧ Later w w' ∧ sliceRd tySeg (fun b => w.heap.size ≤ b) w' q (withX ls t) := by
 subst ht; exact c_withTotal w hls n hw hn h0 hi hL
theorem c_Invoice {v : Value} {ls : List PK.Ord} {D : Nat → Prop} (w : World) (hls : sliceRd tyOrd D w v ls) (hL : LD w) :
  Calls Tryz.prog 114 #[v] w fun e w' => ∃ q, e = .returned q ∧ Later w w' ∧ sliceRd tySeg (fun b => w.heap.size ≤ b) w' q (invR ls) ∧ ((invR ls).length = 0 → q = .slice none 0 0) := by
 obtain ⟨A, cp, rfl, hlc, hmx, _⟩ := id hls
 have ilen : in64 ((ls.length : Nat) : Int) := by unfold in64; omega
 refine enter (vs := [Value.slice A ls.length cp]) Tryz.func114 rfl Tryz.ntmps114 rfl ?_
 refine Zs (Zr ?_)
 refine Xa ?_
 refine Ze (Zt (Zs (Zs (Zr ?_))))
 refine Xm ?_
 refine Xv rfl (v_len_slice u52 rfl) ?_
 refine x_buildSliceL (cs := [Value.int .i64 ((ls.length : Nat) : Int)]) rfl rfl rfl u44 sz3 zr3 rfl rfl rfl ?_
 intro p8
 refine x_callb rfl rfl rfl Tryz.func164 Zk rfl (fun w1 hw1 => c_within 1 999 w1 (rowI_rd (D := fun _ => True) (e := 3) (r := some (p8, [Value.int .i64 ((ls.length : Nat) : Int)], 1)) (n := 1) (ds := [((ls.length : Nat) : Int)]) (rowOK_lit rfl (by decide)) rfl (by simpa using ilen) hw1 (fun q hq => by rw [List.mem_singleton.1 hq]; exact .head _) (fun _ _ => trivial))) fun b9 hb9 => ?_
 refine Xb rfl (v_not rfl) fun b10 hb10 => ?_
 refine Ze (Zt ?_)
 refine w_cond rfl (fun hc10 => ?_) (fun hc10 => ?_)
 ·have hno : ¬payP ls := fun ⟨q1, q2, _⟩ => by
   rw [hb10, hb9] at hc10
   simp [wi] at hc10
   omega
  refine Zs (Zr ?_)
  refine Xa ?_
  refine Ze (Zt (w_ret (t_ret ?_)))
  refine ret1 rfl rfl (fun w' hm => ?_)
  rw [show invR ls = [] from by unfold invR; rw [if_neg hno]]
  exact ⟨_, rfl, hm.base (by simp), sliceRd_nil, fun _ => rfl⟩
 have hlen : 1 ≤ ls.length ∧ ls.length ≤ 999 := by
  rw [hb10, hb9] at hc10
  simp [wi] at hc10
  omega
 refine w_skip (Zt (Zs (Zr ?_)))
 refine Xa ?_
 refine Ze (Zt (Zs (Zs (Zr ?_))))
 refine Xm ?_
 refine Xv rfl (v_len_slice u52 rfl) ?_
 refine Xm ?_
 refine Ze (Zt (w_block ?_))
 refine w_loop (σ := Nat) (fun k => k ≤ ls.length ∧ ∀ o ∈ ls.take k, wrO (pf o)) (fun k => [(0, Value.slice A ls.length cp), (3, Value.int .i64 (totalP (ls.take k))), (11, Value.slice A ls.length cp), (12, Value.int .i64 (ls.length : Nat)), (13, Value.int .i64 (k : Nat))]) (fun k => []) (fun k => [(w, fun _ => True)]) (fun k => ls.length - k) (0) (⟨Nat.zero_le _, fun o ho => by simp at ho⟩) (l_start Zu (fun _ h => h.less (List.nil_sublist _) (fun _ h => h))) ?_
 rintro k ⟨hk, hwr⟩
 refine w_state ([(0, Value.slice A ls.length cp), (3, Value.int .i64 (totalP (ls.take k))), (11, Value.slice A ls.length cp), (12, Value.int .i64 (ls.length : Nat)), (13, Value.int .i64 (k : Nat))]) ([]) ([(w, fun _ => True)]) ?_
 refine Zs (Zr ?_)
 refine Xb rfl (v_lss rfl rfl) fun b14 hb14 => ?_
 refine Ze (Zt (Zs ?_))
 refine w_cond rfl (fun hc14 => ?_) (fun hc14 => ?_)
 ·simp only [hb14, Qz, ne_eq] at hc14
  have hkl : k < ls.length := by omega
  obtain ⟨ob, oo, hA, _, hc, hoA⟩ := ord_at hls hkl
  refine w_skip (Zt (Zs (w_block (Zs (Zr ?_)))))
  refine Xv rfl (v_indexAddr u52 sz25 (congrArg (fun A => some (Value.slice A ls.length cp)) hA) rfl (hkl) rfl) ?_
  refine Xv rfl (v_loadN (vs := ls[k].cells) u25 rfl sz25 rfl (fun j hj => at_ro (.head _) trivial (hc j hj))) ?_
  refine x_alloc rfl rfl rfl zr25 ?_
  intro p5
  refine x_store0 [] rfl rfl rfl rfl sz25 rfl rfl ?_
  refine Ze (Zt (Zs (Zr ?_)))
  refine Xv rfl (v_fieldAddr (off' := 1) u25 rfl sz3 (by decide) rfl rfl) ?_
  refine x_store [] rfl rfl rfl rfl sz3 rfl (by show 2 ≤ 9; decide) ?_
  refine Ze (Zt (Zs (Zs ?_)))
  refine w_state _ [(p5, Obj.cells (pf ls[k]).cells.toArray 25)] _ ?_
  refine Zr ?_
  refine Xv rfl (v_load_blk (e := 25) (fz := (0, 0)) (cs := (pf ls[k]).cells.toArray) u25 rfl rfl (.head _) sz25) ?_
  refine x_callb rfl rfl rfl Tryz.func151 Zk rfl (fun w1 hw1 => c_writable (pf ls[k]) w1 (pf_ok hoA)) fun b19 hb19 => ?_
  refine Xb rfl (v_not rfl) fun b20 hb20 => ?_
  refine Ze (Zt ?_)
  refine w_cond rfl (fun hc20 => ?_) (fun hc20 => ?_)
  ·have hno : ¬payP ls := fun ⟨_, _, q⟩ => by
    rw [hb20, hb19, (writB_iff _).2 (q ls[k] (List.getElem_mem hkl))] at hc20
    cases hc20
   refine Zs (Zr ?_)
   refine Xa ?_
   refine Ze (Zt (w_ret (t_ret (b_ret (t_ret (t_ret (b_ret (t_ret ?_))))))))
   refine ret1 rfl rfl (fun w' hm => ?_)
   rw [show invR ls = [] from by unfold invR; rw [if_neg hno]]
   exact ⟨_, rfl, hm.base (by simp), sliceRd_nil, fun _ => rfl⟩
  have hyes : wrO (pf ls[k]) := by
   rw [hb20, hb19] at hc20
   exact (writB_iff _).1 (by simpa using hc20)
  obtain ⟨g1, g2, _⟩ := line_rng hyes
  obtain ⟨t1, t2⟩ := total_le hwr
  rw [List.length_take] at t2
  have hst : totalP (ls.take (k + 1)) = totalP (ls.take k) + ls[k].copies * ls[k].price := by rw [take_snoc hkl, totalP_snoc]
  refine w_skip (Zt (Zr ?_))
  refine Xm ?_
  refine Xv rfl (v_fieldAddr (off' := 4) u25 rfl sz3 (by decide) rfl rfl) ?_
  refine Xv rfl (v_load u3 rfl rfl (at_ownL (vs := (pf ls[k]).cells) (.head _) rfl)) ?_
  refine Xv rfl (v_fieldAddr (off' := 5) u25 rfl sz3 (by decide) rfl rfl) ?_
  refine Xv rfl (v_load u3 rfl rfl (at_ownL (vs := (pf ls[k]).cells) (.head _) rfl)) ?_
  refine Xv rfl (v_muli (c := ls[k].copies * ls[k].price) rfl rfl rfl (by omega)) ?_
  refine Xv rfl (v_addi (c := totalP (ls.take (k + 1))) rfl rfl hst.symm (by rw [hst]; omega)) ?_
  refine Xa ?_
  refine Ze (b_norm (Zt (Zr ?_)))
  refine Xv rfl (v_addi rfl rfl rfl Zo) ?_
  refine Xm ?_
  refine Ze ?_
  exact l_norm (k + 1) ⟨by omega, take_all_wr hkl hwr hyes⟩ (by omega) Zu (fun w1 h => h.less (List.nil_sublist _) (fun _ h => h))
 simp only [hb14, Qz, ne_eq] at hc14
 obtain rfl : k = ls.length := by omega
 rw [List.take_length] at hwr
 rw [List.take_length]
 have hyes : payP ls := ⟨hlen.1, hlen.2, hwr⟩
 obtain ⟨t1, t2⟩ := total_le hwr
 have it : in64 (totalP ls) := by unfold in64; omega
 refine w_exit ?_
 refine t_exit ?_
 refine t_exit ?_
 refine b_hit ?_
 refine Zt (Zs (Zr ?_))
 refine Xm ?_
 refine Xm ?_
 refine x_callv rfl rfl rfl Tryz.func115 Zk rfl (fun w1 hw1 => c_number (totalP ls) w1 it (hL.later (hw1.base (by simp)))) ?_
 refine x_call (R := fun v wa wb => sliceRd tySeg (fun b => wa.heap.size ≤ b) wb v (withX ls (itoaS (totalP ls)))) rfl rfl rfl Tryz.func116 Zk rfl (fun w1 hw1 => (c_withTotal w1 (hls.keep (Kept.later (hw1.base (by simp)))) (totalP ls) hwr (by omega) t1 it (hL.later (hw1.base (by simp)))).mono fun e w2 ⟨v, h1, h2, h3⟩ => ⟨_, h1, h2, h3⟩) fun v32 wa32 wb32 hm32 hl32 hR32 => ?_
 refine Xa ?_
 refine Ze (Zt (w_ret ?_))
 refine ret1 rfl rfl (fun w' hm => ?_)
 rw [show invR ls = withX ls (itoaS (totalP ls)) from by unfold invR; rw [if_pos hyes]]
 exact ⟨_, rfl, hm.base (by simp), hR32.keep (Kept.made0 hm hm32 (by simp) (by simp)), fun h => by rw [withX_len] at h; omega⟩
set_option maxHeartbeats 1000000 in
theorem c_RdIA {v : Value} {l : List Seg} {D : Nat → Prop} (w : World) (hl : sliceRd tySeg D w v l) (hbig : bigO l) (hL : LD w) (hC : 0 ≤ readP (totE l) ∧ itoaS (readP (totE l)) = totE l) :
  Calls Tryz.prog 60 #[v] w fun e w' => ∃ q, e = .returned (.tuple #[q, .int .i64 (rdI l).2]) ∧ Later w w' ∧ sliceRd tyOrd (fun b => w.heap.size ≤ b) w' q (rdI l).1 := by
 obtain ⟨A, cp, rfl, hlc, hmx, _⟩ := id hl
 refine enter (vs := [Value.slice A l.length cp]) Tryz.func60 rfl Tryz.ntmps60 rfl ?_
 refine Zs (Zr ?_)
 refine Xa ?_
 refine Xa ?_
 refine Ze (Zt (Zs (Zr ?_)))
 refine Xa ?_
 refine Ze (Zt (Zs (Zs (Zr ?_))))
 refine Xa ?_
 refine Ze (Zt (w_block ?_))
 refine w_loop (σ := Nat × RowS) (fun x => x.1 ≤ min 1000 ((l.length - 3) / 4) ∧ RowT tyOrd (fun _ => False) w x.2 ((List.range x.1).map (lineE l))) (fun x => [(0, Value.slice A l.length cp), (4, rowV x.2 x.1), (5, Value.int .i64 ((4 * x.1 + 2 : Nat) : Int))]) (fun x => rowO 25 x.2) (fun x => [(w, fun _ => True)]) (fun x => min 1000 ((l.length - 3) / 4) - x.1) ((0, none)) (⟨Nat.zero_le _, RowT.nil⟩) (l_start Zu (fun _ h => h)) ?_
 rintro ⟨k, R⟩ ⟨hk, hT⟩
 refine w_state ([(0, Value.slice A l.length cp), (4, rowV R k), (5, Value.int .i64 ((4 * k + 2 : Nat) : Int))]) (rowO 25 R) ([(w, fun _ => True)]) ?_
 dsimp only at hk hT
 have hln : ((List.range k).map (lineE l)).length = k := by simp
 refine Zs (Zs (Zr ?_))
 refine Xm ?_
 refine Xv rfl (v_addi (c := ((4 * k + 6 : Nat) : Int)) rfl rfl (by omega) (by omega)) ?_
 refine Xm ?_
 refine Xv rfl (v_len_slice u56 rfl) ?_
 refine Xb rfl (v_lss rfl rfl) fun b13 hb13 => ?_
 refine Xm ?_
 refine Xg ?_
 refine Xi rfl rfl rfl (fun hg0 => by subst hg0; (try simp only [Qy]); exact v_len_slice u52 rfl) ?_
 refine Xj rfl rfl rfl (fun hg0 => by subst hg0; (try simp only [Qy]); exact v_leq rfl rfl) fun b17 hb17 => ?_
 refine Xb rfl (v_and rfl rfl) fun b18 hb18 => ?_
 refine Ze (Zt ?_)
 refine w_cond rfl (fun hc18 => ?_) (fun hc18 => ?_)
 ·simp only [hb18, hb17, hb13, Qz, ne_eq] at hc18
  have hkc : k < min 1000 ((l.length - 3) / 4) := by omega
  refine w_skip (Zt (Zs (w_block (Zr ?_))))
  refine Xm ?_
  refine Xm ?_
  refine Xm ?_
  refine x_callv rfl rfl rfl Tryz.func109 Zk rfl (fun w1 hw1 => c_text (4 * k + 2) 2 0 w1 (hl.keep (Kept.later (hw1.base (by simp))))) ?_
  refine x_callv rfl rfl rfl Tryz.func110 Zk rfl (fun w1 hw1 => c_erec (txt l (4 * k + 2) 2 0) w1 (txt_sz hbig (4 * k + 2) 2 0) (hL.later (hw1.base (by simp)))) ?_
  refine Xm ?_
  refine Xm ?_
  refine Xv rfl (v_addi (c := ((4 * k + 3 : Nat) : Int)) rfl rfl (by omega) (by omega)) ?_
  refine x_callv rfl rfl rfl Tryz.func109 Zk rfl (fun w1 hw1 => c_text (4 * k + 3) 0 1 w1 (hl.keep (Kept.later (hw1.base (by simp))))) ?_
  refine x_callv rfl rfl rfl Tryz.func108 Zk rfl (fun w1 hw1 => c_read (txt l (4 * k + 3) 0 1) w1 (Nat.le_trans (txt_sz hbig (4 * k + 3) 0 1) (by decide)) (hL.later (hw1.base (by simp)))) ?_
  refine Xm ?_
  refine Xm ?_
  refine Xv rfl (v_addi (c := ((4 * k + 4 : Nat) : Int)) rfl rfl (by omega) (by omega)) ?_
  refine x_callv rfl rfl rfl Tryz.func109 Zk rfl (fun w1 hw1 => c_text (4 * k + 4) 0 1 w1 (hl.keep (Kept.later (hw1.base (by simp))))) ?_
  refine x_callv rfl rfl rfl Tryz.func108 Zk rfl (fun w1 hw1 => c_read (txt l (4 * k + 4) 0 1) w1 (Nat.le_trans (txt_sz hbig (4 * k + 4) 0 1) (by decide)) (hL.later (hw1.base (by simp)))) ?_
  refine Xm ?_
  refine Xm ?_
  refine Xv rfl (v_addi (c := ((4 * k + 5 : Nat) : Int)) rfl rfl (by omega) (by omega)) ?_
  refine x_callv rfl rfl rfl Tryz.func109 Zk rfl (fun w1 hw1 => c_text (4 * k + 5) 0 1 w1 (hl.keep (Kept.later (hw1.base (by simp))))) ?_
  refine x_callv rfl rfl rfl Tryz.func108 Zk rfl (fun w1 hw1 => c_read (txt l (4 * k + 5) 0 1) w1 (Nat.le_trans (txt_sz hbig (4 * k + 5) 0 1) (by decide)) (hL.later (hw1.base (by simp)))) ?_
  refine Xv rfl (v_buildL (places := [(0, 1), (1, 1), (2, 2), (4, 1), (5, 1), (6, 1), (7, 1), (8, 1)]) u25 zr25 Zk rfl rfl) ?_
  refine x_buildSliceL (cs := (lineE l k).cells) rfl rfl rfl u52 sz25 zr25 rfl rfl rfl ?_
  intro p42
  obtain ⟨css, hcl, hrow, hrd⟩ := hT
  rw [hln] at hcl hrow
  refine x_append (e := 25) [(p42, Obj.cells (lineE l k).cells.toArray 25)] (l2 := []) R (len := k) (xs := css.flatten) rfl rfl rfl rfl (by rw [List.append_nil]; rfl) hrow u52 ap25 rfl rfl (m := 1) (news := (lineE l k).cells) (fun i hi => at_ownL (vs := (lineE l k).cells) (.head _) (by rw [Nat.zero_add]; exact List.getElem?_eq_getElem hi)) rfl Zx (by omega) fun R' hR' => ?_
  refine Xa ?_
  refine Ze (b_norm (Zt (Zr ?_)))
  refine Xm ?_
  refine Xv rfl (v_addi (c := ((4 * k + 6 : Nat) : Int)) rfl rfl (by omega) (by omega)) ?_
  refine Xa ?_
  refine Ze ?_
  rw [List.append_nil]
  exact l_norm (x := (k, R)) (μ := fun q : Nat × RowS => min 1000 ((l.length - 3) / 4) - q.1) (k + 1, R') ⟨by dsimp only; omega, by dsimp only; rw [range_snoc]; exact snocN hln hcl hrd hR' ⟨rfl, lineE_okA l k⟩⟩ (by simp only; omega) (by dsimp only; rw [show 4 * (k + 1) + 2 = 4 * k + 6 by omega]; repeat (first | exact Sub.nil | refine Sub.cons rfl ?_)) (fun w1 h => h.less (List.sublist_append_right _ _) (fun _ h => h))
 simp only [hb18, hb17, hb13, Qz, ne_eq] at hc18
 obtain rfl : k = min 1000 ((l.length - 3) / 4) := by omega
 refine w_exit ?_
 refine t_exit ?_
 refine t_exit ?_
 refine b_hit ?_
 refine Zt (Zs (Zr ?_))
 refine Xm ?_
 refine x_call (R := fun v wa wb => ∃ A1 c1, v = .slice A1 (invR (linesE l)).length c1 ∧ sliceRd tySeg (fun b => wa.heap.size ≤ b) wb (.slice A1 (invR (linesE l)).length c1) (invR (linesE l)) ∧ A1.isNone = decide ((invR (linesE l)).length = 0)) rfl rfl rfl Tryz.func114 Zk rfl (fun w1 hw1 => (c_Invoice (ls := linesE l) w1 (hT.any (D' := fun _ => True) (e := 25) hw1 (fun q hq => hq) (fun _ _ => trivial) (by simp)) (hL.later (hw1.base (by simp)))).mono fun e w2 ⟨v, h1, h2, h3, h4⟩ => ord_out h1 h2 h3 h4) fun v45 wa45 wb45 hm45 hl45 hR45 => ?_
 obtain ⟨A1, c1, rfl, hr45, hn45⟩ := hR45
 refine Xa ?_
 refine Ze (Zt (Zs (Zs (Zr ?_))))
 refine Xm ?_
 refine Xb rfl (v_sliceNil u56 rfl) fun b47 hb47 => ?_
 refine Xm ?_
 refine Xg ?_
 refine Xi rfl rfl rfl (fun hg0 => by subst hg0; (try simp only [Qy]); exact v_len_slice u56 rfl) ?_
 refine Xg ?_
 refine Xi rfl rfl rfl (fun hg0 => by subst hg0; (try simp only [Qy]); exact v_len_slice u56 rfl) ?_
 refine Xj rfl rfl rfl (fun hg0 => by subst hg0; (try simp only [Qy]); exact v_neq rfl rfl) fun b53 hb53 => ?_
 refine Xb rfl (v_or rfl rfl) fun b54 hb54 => ?_
 refine Ze (Zt ?_)
 refine w_cond rfl (fun hc54 => ?_) (fun hc54 => ?_)
 ·have hno : ¬(payP (linesE l) ∧ (invR (linesE l)).length = l.length) := fun ⟨q1, q2⟩ => by
   rw [hb54, hb53, hb47, hn45, q2] at hc54
   have q3 := invR_len (linesE l)
   rw [if_pos q1, q2] at q3
   simp at hc54
   rw [hc54] at q3
   simp at q3
  refine Zs (Zr ?_)
  refine Xa ?_
  refine Xa ?_
  refine Ze (Zt (w_ret (t_ret ?_)))
  refine ret2 rfl rfl rfl (fun w' hm => ?_)
  rw [show rdI l = ([], 11) from by unfold rdI; rw [if_neg hno]]
  exact ⟨_, rfl, hm.base (by simp), sliceRd_nil⟩
 have hyes : (invR (linesE l)).length = l.length ∧ (invR (linesE l)).length ≠ 0 := by
  rw [hb54, hb53, hb47, hn45] at hc54
  simp only [Bool.or_eq_false_iff, decide_eq_false_iff_not, ne_eq, Decidable.not_not] at hc54
  exact ⟨by omega, hc54.1⟩
 obtain ⟨hle, hl0⟩ := hyes
 have hpay : payP (linesE l) := by
  apply Classical.byContradiction; intro q; apply hl0; rw [invR_len, if_neg q]
 obtain ⟨p1, p2, p3⟩ := id hpay
 have hl5 : l.length = 4 * (linesE l).length + 5 := by rw [← hle, invR_len, if_pos hpay]
 refine w_skip (Zt (Zs (Zr ?_)))
 refine Xm ?_
 refine Xm ?_
 refine Xv rfl (v_len_slice u56 rfl) ?_
 refine Xv rfl (v_subi (c := ((l.length - 2 : Nat) : Int)) rfl rfl (by omega) (by omega)) ?_
 refine x_callv rfl rfl rfl Tryz.func109 Zk rfl (fun w1 hw1 => show Calls _ _ _ w1 (fun e w2 => e = .returned (.string (totE l)) ∧ Later w1 w2) from c_text (l.length - 2) 0 1 w1 (hl.keep (Kept.later (hw1.base (by simp))))) ?_
 refine Xa ?_
 refine Ze (Zt (Zs (Zs (Zr ?_))))
 refine Xm ?_
 refine x_callv rfl rfl rfl Tryz.func108 Zk rfl (fun w1 hw1 => c_read (totE l) w1 (Nat.le_trans (txt_sz hbig (l.length - 2) 0 1) (by decide)) (hL.later (hw1.base (by simp)))) ?_
 refine Xa ?_
 refine Ze (Zt (w_block (Zs (Zr ?_))))
 refine Xm ?_
 refine Xm ?_
 refine x_callb rfl rfl rfl Tryz.func111 Zk rfl (fun w1 hw1 => c_same (xs := invR (linesE l)) (ys := l) w1 (keep_new hr45 hw1 (by simp) hm45) (hl.keep (Kept.later (hw1.base (by simp))))) fun b65 hb65 => ?_
 refine Xa ?_
 refine Ze (Zt ?_)
 refine w_cond rfl (fun hc62 => ?_) (fun hc62 => ?_)
 ·have hsame : invR (linesE l) = l := by rw [hb65] at hc62; simpa using hc62
  refine Zs (Zr ?_)
  refine Xm ?_
  refine Xa ?_
  refine Xa ?_
  refine Ze (Zt (w_ret (b_ret (t_ret ?_))))
  refine ret2 rfl rfl rfl (fun w' hm => ?_)
  rw [show rdI l = (linesE l, 0) from by unfold rdI; rw [if_pos ⟨hpay, hle⟩, if_pos hsame]]
  exact ⟨_, rfl, hm.base (by simp), (hT.any (e := 25) hm (fun q hq => hq) (fun q hq => hm.newer (by simp) hq) (by simp))⟩
 have hdiff : ¬invR (linesE l) = l := by rw [hb65] at hc62; simpa using hc62
 refine Zs (Zr ?_)
 refine Xm ?_
 refine Xb rfl (v_geq rfl rfl) fun b69 hb69 => ?_
 obtain rfl : b69 = true := by rw [hb69]; exact decide_eq_true hC.1
 refine Xm ?_
 refine Xi rfl rfl rfl (fun hg0 => by (try simp only [Qy]); exact v_move rfl) ?_
 refine x_call_if [] rfl rfl rfl rfl rfl Tryz.func115 Zk (fun hg => by obtain ⟨hg0, _⟩ := hg; (try simp only [Qy]); refine ⟨_, rfl, ?_⟩; exact fun w1 hw1 => c_number (readP (totE l)) w1 (readP_in _) (hL.later (hw1.base (by simp)))) ?_
 refine Xi rfl rfl rfl (fun hg0 => by (try simp only [Qy]); exact v_move rfl) ?_
 refine Xj rfl rfl rfl (fun hg0 => by (try simp only [Qy]); exact v_seql rfl rfl) fun b74 hb74 => ?_
 obtain rfl : b74 = true := by rw [hb74]; exact decide_eq_true hC.2
 refine Xb rfl (v_and rfl rfl) fun b75 hb75 => ?_
 obtain rfl : b75 = true := hb75
 refine Xm ?_
 refine Xi rfl rfl rfl (fun hg0 => by (try simp only [Qy]); exact v_move rfl) ?_
 refine Xi rfl rfl rfl (fun hg0 => by (try simp only [Qy]); exact v_move rfl) ?_
 refine x_call_g (R := fun v wa wb => sliceRd tySeg (fun b => wa.heap.size ≤ b) wb v (withX (linesE l) (totE l))) rfl rfl rfl rfl rfl Tryz.func116 Zk rfl (fun w1 hw1 => (c_withTotalT (ls := linesE l) w1 (hT.any (D' := fun _ => True) (e := 25) hw1 (fun q hq => hq) (fun _ _ => trivial) (by simp)) (readP (totE l)) p3 (by omega) hC.1 (readP_in _) (hL.later (hw1.base (by simp))) hC.2).mono fun e w2 ⟨v, h1, h2, h3⟩ => ⟨_, h1, h2, h3⟩) fun v79 wa79 wb79 hm79 hl79 hR79 => ?_
 refine Xi rfl rfl rfl (fun hg0 => by (try simp only [Qy]); exact v_move rfl) ?_
 refine x_call_ifb [] rfl rfl rfl rfl rfl Tryz.func111 Zk (fun hg => by obtain ⟨hg0, _⟩ := hg; (try simp only [Qy]); refine ⟨_, rfl, ?_⟩; exact fun w1 hw1 => c_same (xs := withX (linesE l) (totE l)) (ys := l) w1 (keep_new hR79 hw1 (by simp) hm79) (hl.keep (Kept.later (hw1.base (by simp))))) fun b81 hb81 => ?_
 refine Xb rfl (v_and rfl rfl) fun b82 hb82 => ?_
 refine Xa ?_
 refine Ze (Zt ?_)
 refine w_cond rfl (fun hc67 => ?_) (fun hc67 => ?_)
 ·have hw60 : withX (linesE l) (totE l) = l := by
   rw [hb82, hb81] at hc67
   simpa using hc67
  refine Zs (Zr ?_)
  refine Xa ?_
  refine Xa ?_
  refine Ze (Zt (w_ret (b_ret (t_ret ?_))))
  refine ret2 rfl rfl rfl (fun w' hm => ?_)
  rw [show rdI l = ([], 60) from by unfold rdI; rw [if_pos ⟨hpay, hle⟩, if_neg hdiff, if_pos ⟨hC.1, hC.2, hw60⟩]]
  exact ⟨_, rfl, hm.base (by simp), sliceRd_nil⟩
 have hw60 : ¬withX (linesE l) (totE l) = l := by
  rw [hb82, hb81] at hc67
  simpa using hc67
 refine w_skip (b_norm (Zt (Zs (Zr ?_))))
 refine Xa ?_
 refine Xa ?_
 refine Ze (Zt (w_ret ?_))
 refine ret2 rfl rfl rfl (fun w' hm => ?_)
 rw [show rdI l = ([], 11) from by unfold rdI; rw [if_pos ⟨hpay, hle⟩, if_neg hdiff, if_neg (fun q => hw60 q.2.2)]]
 exact ⟨_, rfl, hm.base (by simp), sliceRd_nil⟩
set_option maxHeartbeats 1000000 in
theorem c_RdIB {v : Value} {l : List Seg} {D : Nat → Prop} (w : World) (hl : sliceRd tySeg D w v l) (hbig : bigO l) (hL : LD w) (hC : ¬(0 ≤ readP (totE l) ∧ itoaS (readP (totE l)) = totE l)) :
  Calls Tryz.prog 60 #[v] w fun e w' => ∃ q, e = .returned (.tuple #[q, .int .i64 (rdI l).2]) ∧ Later w w' ∧ sliceRd tyOrd (fun b => w.heap.size ≤ b) w' q (rdI l).1 := by
 obtain ⟨A, cp, rfl, hlc, hmx, _⟩ := id hl
 refine enter (vs := [Value.slice A l.length cp]) Tryz.func60 rfl Tryz.ntmps60 rfl ?_
 refine Zs (Zr ?_)
 refine Xa ?_
 refine Xa ?_
 refine Ze (Zt (Zs (Zr ?_)))
 refine Xa ?_
 refine Ze (Zt (Zs (Zs (Zr ?_))))
 refine Xa ?_
 refine Ze (Zt (w_block ?_))
 refine w_loop (σ := Nat × RowS) (fun x => x.1 ≤ min 1000 ((l.length - 3) / 4) ∧ RowT tyOrd (fun _ => False) w x.2 ((List.range x.1).map (lineE l))) (fun x => [(0, Value.slice A l.length cp), (4, rowV x.2 x.1), (5, Value.int .i64 ((4 * x.1 + 2 : Nat) : Int))]) (fun x => rowO 25 x.2) (fun x => [(w, fun _ => True)]) (fun x => min 1000 ((l.length - 3) / 4) - x.1) ((0, none)) (⟨Nat.zero_le _, RowT.nil⟩) (l_start Zu (fun _ h => h)) ?_
 rintro ⟨k, R⟩ ⟨hk, hT⟩
 refine w_state ([(0, Value.slice A l.length cp), (4, rowV R k), (5, Value.int .i64 ((4 * k + 2 : Nat) : Int))]) (rowO 25 R) ([(w, fun _ => True)]) ?_
 dsimp only at hk hT
 have hln : ((List.range k).map (lineE l)).length = k := by simp
 refine Zs (Zs (Zr ?_))
 refine Xm ?_
 refine Xv rfl (v_addi (c := ((4 * k + 6 : Nat) : Int)) rfl rfl (by omega) (by omega)) ?_
 refine Xm ?_
 refine Xv rfl (v_len_slice u56 rfl) ?_
 refine Xb rfl (v_lss rfl rfl) fun b13 hb13 => ?_
 refine Xm ?_
 refine Xg ?_
 refine Xi rfl rfl rfl (fun hg0 => by subst hg0; (try simp only [Qy]); exact v_len_slice u52 rfl) ?_
 refine Xj rfl rfl rfl (fun hg0 => by subst hg0; (try simp only [Qy]); exact v_leq rfl rfl) fun b17 hb17 => ?_
 refine Xb rfl (v_and rfl rfl) fun b18 hb18 => ?_
 refine Ze (Zt ?_)
 refine w_cond rfl (fun hc18 => ?_) (fun hc18 => ?_)
 ·simp only [hb18, hb17, hb13, Qz, ne_eq] at hc18
  have hkc : k < min 1000 ((l.length - 3) / 4) := by omega
  refine w_skip (Zt (Zs (w_block (Zr ?_))))
  refine Xm ?_
  refine Xm ?_
  refine Xm ?_
  refine x_callv rfl rfl rfl Tryz.func109 Zk rfl (fun w1 hw1 => c_text (4 * k + 2) 2 0 w1 (hl.keep (Kept.later (hw1.base (by simp))))) ?_
  refine x_callv rfl rfl rfl Tryz.func110 Zk rfl (fun w1 hw1 => c_erec (txt l (4 * k + 2) 2 0) w1 (txt_sz hbig (4 * k + 2) 2 0) (hL.later (hw1.base (by simp)))) ?_
  refine Xm ?_
  refine Xm ?_
  refine Xv rfl (v_addi (c := ((4 * k + 3 : Nat) : Int)) rfl rfl (by omega) (by omega)) ?_
  refine x_callv rfl rfl rfl Tryz.func109 Zk rfl (fun w1 hw1 => c_text (4 * k + 3) 0 1 w1 (hl.keep (Kept.later (hw1.base (by simp))))) ?_
  refine x_callv rfl rfl rfl Tryz.func108 Zk rfl (fun w1 hw1 => c_read (txt l (4 * k + 3) 0 1) w1 (Nat.le_trans (txt_sz hbig (4 * k + 3) 0 1) (by decide)) (hL.later (hw1.base (by simp)))) ?_
  refine Xm ?_
  refine Xm ?_
  refine Xv rfl (v_addi (c := ((4 * k + 4 : Nat) : Int)) rfl rfl (by omega) (by omega)) ?_
  refine x_callv rfl rfl rfl Tryz.func109 Zk rfl (fun w1 hw1 => c_text (4 * k + 4) 0 1 w1 (hl.keep (Kept.later (hw1.base (by simp))))) ?_
  refine x_callv rfl rfl rfl Tryz.func108 Zk rfl (fun w1 hw1 => c_read (txt l (4 * k + 4) 0 1) w1 (Nat.le_trans (txt_sz hbig (4 * k + 4) 0 1) (by decide)) (hL.later (hw1.base (by simp)))) ?_
  refine Xm ?_
  refine Xm ?_
  refine Xv rfl (v_addi (c := ((4 * k + 5 : Nat) : Int)) rfl rfl (by omega) (by omega)) ?_
  refine x_callv rfl rfl rfl Tryz.func109 Zk rfl (fun w1 hw1 => c_text (4 * k + 5) 0 1 w1 (hl.keep (Kept.later (hw1.base (by simp))))) ?_
  refine x_callv rfl rfl rfl Tryz.func108 Zk rfl (fun w1 hw1 => c_read (txt l (4 * k + 5) 0 1) w1 (Nat.le_trans (txt_sz hbig (4 * k + 5) 0 1) (by decide)) (hL.later (hw1.base (by simp)))) ?_
  refine Xv rfl (v_buildL (places := [(0, 1), (1, 1), (2, 2), (4, 1), (5, 1), (6, 1), (7, 1), (8, 1)]) u25 zr25 Zk rfl rfl) ?_
  refine x_buildSliceL (cs := (lineE l k).cells) rfl rfl rfl u52 sz25 zr25 rfl rfl rfl ?_
  intro p42
  obtain ⟨css, hcl, hrow, hrd⟩ := hT
  rw [hln] at hcl hrow
  refine x_append (e := 25) [(p42, Obj.cells (lineE l k).cells.toArray 25)] (l2 := []) R (len := k) (xs := css.flatten) rfl rfl rfl rfl (by rw [List.append_nil]; rfl) hrow u52 ap25 rfl rfl (m := 1) (news := (lineE l k).cells) (fun i hi => at_ownL (vs := (lineE l k).cells) (.head _) (by rw [Nat.zero_add]; exact List.getElem?_eq_getElem hi)) rfl Zx (by omega) fun R' hR' => ?_
  refine Xa ?_
  refine Ze (b_norm (Zt (Zr ?_)))
  refine Xm ?_
  refine Xv rfl (v_addi (c := ((4 * k + 6 : Nat) : Int)) rfl rfl (by omega) (by omega)) ?_
  refine Xa ?_
  refine Ze ?_
  rw [List.append_nil]
  exact l_norm (x := (k, R)) (μ := fun q : Nat × RowS => min 1000 ((l.length - 3) / 4) - q.1) (k + 1, R') ⟨by dsimp only; omega, by dsimp only; rw [range_snoc]; exact snocN hln hcl hrd hR' ⟨rfl, lineE_okA l k⟩⟩ (by simp only; omega) (by dsimp only; rw [show 4 * (k + 1) + 2 = 4 * k + 6 by omega]; repeat (first | exact Sub.nil | refine Sub.cons rfl ?_)) (fun w1 h => h.less (List.sublist_append_right _ _) (fun _ h => h))
 simp only [hb18, hb17, hb13, Qz, ne_eq] at hc18
 obtain rfl : k = min 1000 ((l.length - 3) / 4) := by omega
 refine w_exit ?_
 refine t_exit ?_
 refine t_exit ?_
 refine b_hit ?_
 refine Zt (Zs (Zr ?_))
 refine Xm ?_
 refine x_call (R := fun v wa wb => ∃ A1 c1, v = .slice A1 (invR (linesE l)).length c1 ∧ sliceRd tySeg (fun b => wa.heap.size ≤ b) wb (.slice A1 (invR (linesE l)).length c1) (invR (linesE l)) ∧ A1.isNone = decide ((invR (linesE l)).length = 0)) rfl rfl rfl Tryz.func114 Zk rfl (fun w1 hw1 => (c_Invoice (ls := linesE l) w1 (hT.any (D' := fun _ => True) (e := 25) hw1 (fun q hq => hq) (fun _ _ => trivial) (by simp)) (hL.later (hw1.base (by simp)))).mono fun e w2 ⟨v, h1, h2, h3, h4⟩ => ord_out h1 h2 h3 h4) fun v45 wa45 wb45 hm45 hl45 hR45 => ?_
 obtain ⟨A1, c1, rfl, hr45, hn45⟩ := hR45
 refine Xa ?_
 refine Ze (Zt (Zs (Zs (Zr ?_))))
 refine Xm ?_
 refine Xb rfl (v_sliceNil u56 rfl) fun b47 hb47 => ?_
 refine Xm ?_
 refine Xg ?_
 refine Xi rfl rfl rfl (fun hg0 => by subst hg0; (try simp only [Qy]); exact v_len_slice u56 rfl) ?_
 refine Xg ?_
 refine Xi rfl rfl rfl (fun hg0 => by subst hg0; (try simp only [Qy]); exact v_len_slice u56 rfl) ?_
 refine Xj rfl rfl rfl (fun hg0 => by subst hg0; (try simp only [Qy]); exact v_neq rfl rfl) fun b53 hb53 => ?_
 refine Xb rfl (v_or rfl rfl) fun b54 hb54 => ?_
 refine Ze (Zt ?_)
 refine w_cond rfl (fun hc54 => ?_) (fun hc54 => ?_)
 ·have hno : ¬(payP (linesE l) ∧ (invR (linesE l)).length = l.length) := fun ⟨q1, q2⟩ => by
   rw [hb54, hb53, hb47, hn45, q2] at hc54
   have q3 := invR_len (linesE l)
   rw [if_pos q1, q2] at q3
   simp at hc54
   rw [hc54] at q3
   simp at q3
  refine Zs (Zr ?_)
  refine Xa ?_
  refine Xa ?_
  refine Ze (Zt (w_ret (t_ret ?_)))
  refine ret2 rfl rfl rfl (fun w' hm => ?_)
  rw [show rdI l = ([], 11) from by unfold rdI; rw [if_neg hno]]
  exact ⟨_, rfl, hm.base (by simp), sliceRd_nil⟩
 have hyes : (invR (linesE l)).length = l.length ∧ (invR (linesE l)).length ≠ 0 := by
  rw [hb54, hb53, hb47, hn45] at hc54
  simp only [Bool.or_eq_false_iff, decide_eq_false_iff_not, ne_eq, Decidable.not_not] at hc54
  exact ⟨by omega, hc54.1⟩
 obtain ⟨hle, hl0⟩ := hyes
 have hpay : payP (linesE l) := by
  apply Classical.byContradiction; intro q; apply hl0; rw [invR_len, if_neg q]
 obtain ⟨p1, p2, p3⟩ := id hpay
 have hl5 : l.length = 4 * (linesE l).length + 5 := by rw [← hle, invR_len, if_pos hpay]
 refine w_skip (Zt (Zs (Zr ?_)))
 refine Xm ?_
 refine Xm ?_
 refine Xv rfl (v_len_slice u56 rfl) ?_
 refine Xv rfl (v_subi (c := ((l.length - 2 : Nat) : Int)) rfl rfl (by omega) (by omega)) ?_
 refine x_callv rfl rfl rfl Tryz.func109 Zk rfl (fun w1 hw1 => show Calls _ _ _ w1 (fun e w2 => e = .returned (.string (totE l)) ∧ Later w1 w2) from c_text (l.length - 2) 0 1 w1 (hl.keep (Kept.later (hw1.base (by simp))))) ?_
 refine Xa ?_
 refine Ze (Zt (Zs (Zs (Zr ?_))))
 refine Xm ?_
 refine x_callv rfl rfl rfl Tryz.func108 Zk rfl (fun w1 hw1 => c_read (totE l) w1 (Nat.le_trans (txt_sz hbig (l.length - 2) 0 1) (by decide)) (hL.later (hw1.base (by simp)))) ?_
 refine Xa ?_
 refine Ze (Zt (w_block (Zs (Zr ?_))))
 refine Xm ?_
 refine Xm ?_
 refine x_callb rfl rfl rfl Tryz.func111 Zk rfl (fun w1 hw1 => c_same (xs := invR (linesE l)) (ys := l) w1 (keep_new hr45 hw1 (by simp) hm45) (hl.keep (Kept.later (hw1.base (by simp))))) fun b65 hb65 => ?_
 refine Xa ?_
 refine Ze (Zt ?_)
 refine w_cond rfl (fun hc62 => ?_) (fun hc62 => ?_)
 ·have hsame : invR (linesE l) = l := by rw [hb65] at hc62; simpa using hc62
  refine Zs (Zr ?_)
  refine Xm ?_
  refine Xa ?_
  refine Xa ?_
  refine Ze (Zt (w_ret (b_ret (t_ret ?_))))
  refine ret2 rfl rfl rfl (fun w' hm => ?_)
  rw [show rdI l = (linesE l, 0) from by unfold rdI; rw [if_pos ⟨hpay, hle⟩, if_pos hsame]]
  exact ⟨_, rfl, hm.base (by simp), (hT.any (e := 25) hm (fun q hq => hq) (fun q hq => hm.newer (by simp) hq) (by simp))⟩
 have hdiff : ¬invR (linesE l) = l := by rw [hb65] at hc62; simpa using hc62
 refine Zs (Zr ?_)
 refine Xm ?_
 refine Xb rfl (v_geq rfl rfl) fun b69 hb69 => ?_
 refine Xm ?_
 refine Xg ?_
 refine x_call_if [] rfl rfl rfl rfl rfl Tryz.func115 Zk (fun hg => by obtain ⟨hg0, _⟩ := hg; subst hg0; (try simp only [Qy]); refine ⟨_, rfl, ?_⟩; exact fun w1 hw1 => c_number (readP (totE l)) w1 (readP_in _) (hL.later (hw1.base (by simp)))) ?_
 refine Xg ?_
 refine Xj rfl rfl rfl (fun hg0 => by subst hg0; (try simp only [Qy]); exact v_seql rfl rfl) fun b74 hb74 => ?_
 refine Xb rfl (v_and rfl rfl) fun b75 hb75 => ?_
 obtain rfl : b75 = false := by
    rw [hb75, hb74, hb69]
    rw [← Bool.not_eq_true]
    simpa using hC
 refine Xm ?_
 refine x_no rfl rfl rfl rfl rfl ?_
 refine x_no rfl rfl rfl rfl rfl ?_
 refine x_no rfl rfl rfl rfl rfl ?_
 refine x_no rfl rfl rfl rfl rfl ?_
 refine x_no rfl rfl rfl rfl rfl ?_
 refine Xv (v := .bool false) rfl (v_pick (b := false) rfl rfl) ?_
 refine Xa ?_
 refine Ze (Zt ?_)
 refine w_cond rfl (fun hc67 => ?_) (fun hc67 => ?_)
 ·cases hc67
 skip
 refine w_skip (b_norm (Zt (Zs (Zr ?_))))
 refine Xa ?_
 refine Xa ?_
 refine Ze (Zt (w_ret ?_))
 refine ret2 rfl rfl rfl (fun w' hm => ?_)
 rw [show rdI l = ([], 11) from by unfold rdI; rw [if_pos ⟨hpay, hle⟩, if_neg hdiff, if_neg (fun q => hC ⟨q.1, q.2.1⟩)]]
 exact ⟨_, rfl, hm.base (by simp), sliceRd_nil⟩
theorem c_ReadInvoice {v : Value} {l : List Seg} {D : Nat → Prop} (w : World) (hl : sliceRd tySeg D w v l) (hbig : bigO l) (hL : LD w) : Calls Tryz.prog 60 #[v] w fun e w' => ∃ q, e = .returned (.tuple #[q, .int .i64 (rdI l).2]) ∧ Later w w' ∧ sliceRd tyOrd (fun b => w.heap.size ≤ b) w' q (rdI l).1 := by
 by_cases hC : 0 ≤ readP (totE l) ∧ itoaS (readP (totE l)) = totE l
 ·exact c_RdIA w hl hbig hL hC
 exact c_RdIB w hl hbig hL hC
open Go.RowKit Go.PK
open Go.RowKit Go.PK
open Go.RowKit Go.PK
theorem c_FNew (w : World) :
  Calls Tryz.prog 22 #[] w fun e w' => ∃ pF, e = .returned (.pointer (some ⟨pF, 0, none⟩)) ∧ Mem w' [(pF, Obj.cells [Value.map none, .int .i64 0].toArray 125)] [(w, fun _ => True)] := by
 refine enter (vs := []) Tryz.func22 rfl Tryz.ntmps22 rfl ?_
 refine Zs (Zr ?_)
 refine Xa ?_
 refine Ze (Zt (Zs (Zr ?_)))
 refine Xv (v := Value.agg #[.map none, .int .i64 0]) rfl (v_buildL (cs := [Value.map none, .int .i64 0]) (places := [(0, 1), (1, 1)]) u125 zr125 Zk rfl rfl) ?_
 refine x_box rfl rfl rfl rfl ?_
 intro p2
 refine Xa ?_
 refine Ze (Zt (w_ret ?_))
 exact ret1 rfl rfl (fun w' hm => ⟨_, rfl, hm⟩)
theorem c_ONew {pF : Nat} (t : Int) (w : World) :
  Calls Tryz.prog 17 #[.pointer (some ⟨pF, 0, none⟩), .int .i64 t] w fun e w' => ∃ x : Nat × Nat, e = .returned (.pointer (some ⟨x.1, 0, none⟩)) ∧ Mem w' [(x.1, Obj.cells (orC pF (min (max t 0) 1000000) x.2).toArray 38), (x.2, Obj.map #[] 0)] [(w, fun _ => True)] := by
 refine enter (vs := [.pointer (some ⟨pF, 0, none⟩), .int .i64 t]) Tryz.func17 rfl Tryz.ntmps17 rfl ?_
 refine Zs (Zr ?_)
 refine Xa ?_
 refine Ze (Zt (Zs (Zr ?_)))
 refine Xm ?_
 refine Xm ?_
 refine Xv (v := Value.int .i64 (max t 0)) rfl (v_max rfl rfl) ?_
 refine Xv (v := Value.int .i64 (min (max t 0) 1000000)) rfl (v_min rfl rfl) ?_
 refine x_makeMap rfl rfl rfl ?_
 intro p9
 refine Xv (v := Value.agg (orC pF (min (max t 0) 1000000) p9).toArray) rfl (v_buildL (cs := orC pF (min (max t 0) 1000000) p9) (places := [(0, 1), (1, 1), (2, 1)]) u38 zr38 Zk rfl rfl) ?_
 refine x_box rfl rfl rfl rfl ?_
 intro p11
 refine Xa ?_
 refine Ze (Zt (w_ret ?_))
 exact ret1 rfl rfl (fun w' hm => ⟨(_, _), rfl, hm⟩)
theorem c_near {pO : Nat} {tol : Int} (p q : Int) (w : World) (h1 : w.cell? ⟨pO, 1, none⟩ = some (.int .i64 tol)) (ht : 0 ≤ tol ∧ tol ≤ 1000000) (hp : 0 ≤ p ∧ p ≤ 999999999) (hq : 0 ≤ q ∧ q ≤ 999999999) :
  Calls Tryz.prog 56 #[.pointer (some ⟨pO, 0, none⟩), .int .i64 p, .int .i64 q] w fun e w' => e = .returned (.bool (decide (nearP tol p q))) ∧ Later w w' := by
 have hmul := mul9 (a := 1000000) (b := 999999999) ht hq
 refine enter (vs := [.pointer (some ⟨pO, 0, none⟩), .int .i64 p, .int .i64 q]) Tryz.func56 rfl Tryz.ntmps56 rfl ?_
 refine Zs (Zr ?_)
 refine Xa ?_
 refine Ze (Zt (Zs (Zr ?_)))
 refine Xm ?_
 refine Xm ?_
 refine Xv rfl (v_subi rfl rfl rfl Zo) ?_
 refine Xm ?_
 refine Xm ?_
 refine Xv rfl (v_subi rfl rfl rfl Zo) ?_
 refine Xv rfl (v_max rfl rfl) ?_
 refine Xv rfl (v_muli rfl rfl rfl Zo) ?_
 refine Xm ?_
 refine Xv rfl (v_nilCheck rfl) ?_
 refine Xv rfl (v_fieldAddr (off' := 1) u38 rfl sz3 (by decide) rfl rfl) ?_
 refine Xv rfl (v_load u3 rfl rfl (at_ro (.head _) trivial h1)) ?_
 refine Xm ?_
 refine Xv rfl (v_muli rfl rfl rfl Zo) ?_
 refine Xb rfl (v_leq rfl rfl) fun b21 hb21 => ?_
 refine Xa ?_
 refine Ze (Zt (w_ret ?_))
 refine ret1 rfl rfl (fun w' hm => ⟨?_, hm.base (by simp)⟩)
 rw [hb21]; rfl
theorem c_wrt (x : PK.Ord) (w : World) (hx : x.okA) (hL : LD w) :
  Calls Tryz.prog 51 #[.agg x.cells.toArray] w fun e w' => e = .returned (.bool (writB x)) ∧ Later w w' := by
 refine enter (vs := [.agg x.cells.toArray]) Tryz.func51 rfl Tryz.ntmps51 rfl ?_
 refine Zs (Zr ?_)
 refine x_box rfl rfl rfl rfl ?_
 intro p1
 refine Xa ?_
 refine Ze (Zt (Zs (Zr ?_)))
 refine Xv rfl (v_load_blk (e := 25) (fz := (0, 0)) (cs := x.cells.toArray) u25 rfl rfl (.head _) sz25) ?_
 refine x_call (R := fun v wa wb => ∃ A1 c1, v = .slice A1 (orderR x).length c1) rfl rfl rfl Tryz.func104 Zk rfl (fun w1 hw1 => (c_Order x w1 hx.1 (hL.later (hw1.base (by simp)))).mono fun e w2 ⟨v, h1, h2, h3, h4⟩ => by obtain ⟨A1, c1, rfl, _⟩ := id h3; exact ⟨_, h1, h2, A1, c1, rfl⟩) fun v4 wa4 wb4 hm4 hl4 hR4 => ?_
 obtain ⟨A4, c4, rfl⟩ := hR4
 refine Xv rfl (v_len_slice u56 rfl) ?_
 refine Xb rfl (v_gtr rfl rfl) fun b6 hb6 => ?_
 refine Xa ?_
 refine Ze (Zt (w_ret ?_))
 refine ret1 rfl rfl (fun w' hm => ⟨?_, hm.base (by simp)⟩)
 rw [hb6]; unfold orderR; split <;> rename_i h <;> simp [h, orderP]
open Go.RowKit Go.PK
open Go.RowKit Go.PK
theorem c_read1 (s : ByteArray) (w : World) (hs : s.size ≤ 200000000) (h0 : (parR s).2.2 = 0) (hbig : bigO (parR s).1) (hL : LD w) :
  Calls Tryz.prog 54 #[.string s, .func (.func 55) #[] #[]] w fun e w' => e = .returned (.tuple #[.agg (rdO (parR s).1).1.cells.toArray, .int .i64 (rdO (parR s).1).2]) ∧ Later w w' := by
 refine enter (vs := [.string s, .func (.func 55) #[] #[]]) Tryz.func54 rfl Tryz.ntmps54 rfl ?_
 refine Zs (Zr ?_)
 refine x_alloc rfl rfl rfl zr25 ?_
 intro p4
 refine Xa ?_
 refine Ze (Zt (Zs (Zr ?_)))
 refine Xm ?_
 refine x_call (R := fun v wa wb => ∃ A c, v = .tuple #[.slice A (parR s).1.length c, .int .i64 (parR s).2.1, .int .i64 (parR s).2.2] ∧ sliceRd tySeg (fun b => wa.heap.size ≤ b) wb (.slice A (parR s).1.length c) (parR s).1) rfl rfl rfl Tryz.func107 Zk rfl (fun w1 hw1 => (c_Parse s w1 hs).mono fun e w2 ⟨v, h1, h2, h3⟩ => by obtain ⟨A, c, rfl, _⟩ := id h3; exact ⟨_, h1, h2, A, c, rfl, h3⟩) fun v12 wa12 wb12 hm12 hl12 hR12 => ?_
 obtain ⟨A12, c12, rfl, hp12⟩ := hR12
 refine Xm ?_
 refine Xv rfl (v_extract rfl rfl) ?_
 refine Xv rfl (v_extract rfl rfl) ?_
 refine Xv rfl (v_extract rfl rfl) ?_
 refine Xa ?_
 refine Xa ?_
 refine Xa ?_
 refine Ze (Zt (Zs (Zs (Zr ?_))))
 refine Xm ?_
 refine Xb rfl (v_neq rfl rfl) fun b17 hb17 => ?_
 refine Ze (Zt ?_)
 refine w_cond rfl (fun hc17 => ?_) (fun hc17 => ?_)
 ·exfalso
  rw [hb17, h0] at hc17
  revert hc17; simp
 simp only [hb17, Qz, ne_eq] at hc17
 refine w_skip (Zt (Zs (Zr ?_)))
 refine Xm ?_
 refine Xm ?_
 refine x_clv (cap := #[]) rfl rfl rfl rfl Tryz.func55 Zk rfl (fun w1 hw1 => by simpa using c_ReadOrder (l := (parR s).1) w1 (keep_new hp12 hw1 Zh hm12) hbig (hL.later (hw1.base (by simp)))) ?_
 refine Xv rfl (v_extract rfl rfl) ?_
 refine Xv rfl (v_extract rfl rfl) ?_
 refine x_store0 [] rfl rfl rfl rfl sz25 rfl rfl ?_
 refine Xa ?_
 refine Ze (Zt (w_ret ?_))
 refine retct (cs := (rdO (parR s).1).1.cells.toArray) rfl rfl rfl (.head _) u25 rfl sz25 (fun w1 hm => ⟨rfl, hm.base (by simp)⟩)
theorem c_read2 (s : ByteArray) (w : World) (hs : s.size ≤ 200000000) (h0 : (parR s).2.2 = 0) (hbig : bigO (parR s).1) (hL : LD w) :
  Calls Tryz.prog 59 #[.string s, .func (.func 60) #[] #[]] w fun e w' => ∃ q, e = .returned (.tuple #[q, .int .i64 (rdI (parR s).1).2]) ∧ Later w w' ∧ sliceRd tyOrd (fun b => w.heap.size ≤ b) w' q (rdI (parR s).1).1 := by
 refine enter (vs := [.string s, .func (.func 60) #[] #[]]) Tryz.func59 rfl Tryz.ntmps59 rfl ?_
 refine Zs (Zr ?_)
 refine Xa ?_
 refine Xa ?_
 refine Ze (Zt (Zs (Zr ?_)))
 refine Xm ?_
 refine x_call (R := fun v wa wb => ∃ A c, v = .tuple #[.slice A (parR s).1.length c, .int .i64 (parR s).2.1, .int .i64 (parR s).2.2] ∧ sliceRd tySeg (fun b => wa.heap.size ≤ b) wb (.slice A (parR s).1.length c) (parR s).1) rfl rfl rfl Tryz.func107 Zk rfl (fun w1 hw1 => (c_Parse s w1 hs).mono fun e w2 ⟨v, h1, h2, h3⟩ => by obtain ⟨A, c, rfl, _⟩ := id h3; exact ⟨_, h1, h2, A, c, rfl, h3⟩) fun v12 wa12 wb12 hm12 hl12 hR12 => ?_
 obtain ⟨A12, c12, rfl, hp12⟩ := hR12
 refine Xm ?_
 refine Xv rfl (v_extract rfl rfl) ?_
 refine Xv rfl (v_extract rfl rfl) ?_
 refine Xv rfl (v_extract rfl rfl) ?_
 refine Xa ?_
 refine Xa ?_
 refine Xa ?_
 refine Ze (Zt (Zs (Zs (Zr ?_))))
 refine Xm ?_
 refine Xb rfl (v_neq rfl rfl) fun b17 hb17 => ?_
 refine Ze (Zt ?_)
 refine w_cond rfl (fun hc17 => ?_) (fun hc17 => ?_)
 ·exfalso
  rw [hb17, h0] at hc17
  revert hc17; simp
 simp only [hb17, Qz, ne_eq] at hc17
 refine w_skip (Zt (Zs (Zr ?_)))
 refine Xm ?_
 refine Xm ?_
 refine x_cln (R := fun v wa wb => ∃ q, v = .tuple #[q, .int .i64 (rdI (parR s).1).2] ∧ sliceRd tyOrd (fun b => wa.heap.size ≤ b) wb q (rdI (parR s).1).1) rfl rfl rfl rfl Tryz.func60 Zk rfl (fun w1 hw1 => (c_ReadInvoice (l := (parR s).1) w1 (keep_new hp12 hw1 Zh hm12) hbig (hL.later (hw1.base (by simp)))).mono fun e w2 ⟨q, h1, h2, h3⟩ => ⟨_, h1, h2, q, rfl, h3⟩) ?_
 rintro _ wa22 wb22 hm22 _ ⟨q22, rfl, hr22⟩
 refine Xv rfl (v_extract rfl rfl) ?_
 refine Xv rfl (v_extract rfl rfl) ?_
 refine Xa ?_
 refine Xa ?_
 refine Ze (Zt (w_ret ?_))
 exact ret2 rfl rfl rfl (fun w' hm => ⟨_, rfl, hm.base (by simp), hr22.keep (Kept.made0 hm hm22 (by simp) (by simp))⟩)
theorem eqRec (w : World) (a b a' b' : Int) : (Op.equalIn 10000 23 (.agg #[.int .i64 a, .int .i64 b]) (.agg #[.int .i64 a', .int .i64 b'])).run Tryz.prog w = .ok (decide (a = a' ∧ b = b')) w := by
 have hf : (Tryz.prog.fieldsOf 23).toList = [⟨ "Source", 3, 0, false, "", "", 0⟩, ⟨ "Number", 3, 1, false, "", "", 8⟩] := by kernel_rfl
 rw [run_equalIn_struct w 9999 23 _ _ Zk Zk, hf]
 simp only [Op.eqFields, part]
 simp [run_isAgg u3, PK.run_sizeOf sz3, aggT, run_equalIn_int w 9998 3 .i64 .i64 _ _ u3]
 by_cases h1 : a = a' <;> by_cases h2 : b = b' <;> simp [h1, h2]
open Go.RowKit Go.PK
open Go.RowKit Go.PK
theorem encP_f {f : FSt} {n : Int} (h : (encP f n).1 ≠ 0) : (encP f n).2 = f := by
 unfold encP at h ⊢
 by_cases h1 : n < 0
 ·rw [if_pos h1]
 rw [if_neg h1] at h ⊢
 by_cases h2 : n > f.free
 ·rw [if_pos h2]
 rw [if_neg h2] at h; exact absurd rfl h
theorem relP_f {f : FSt} {n : Int} (h : (relP f n).1 ≠ 0) : (relP f n).2 = f := by
 unfold relP at h ⊢
 by_cases h1 : n < 0
 ·rw [if_pos h1]
 rw [if_neg h1] at h ⊢
 by_cases h2 : n > f.en
 ·rw [if_pos h2]
 rw [if_neg h2] at h; exact absurd rfl h
end Go.Proofs.YtifekogdhjabaaaGreatDoor

/-
  DERIVED: THE SHELF's CONTRACTS AT THIS DUMP, IN PLAIN WORDS (tools/lay-plain.mjs out of 'TryzClone.lean', which tools/lay-shelf.mjs wrote): THE SAME DECLARATIONS UNDER THE SAME NAMES: 'import', 'namespace', 'open', 'def', 'theorem' AND NOTHING ELSE: no command of the shelf's: FOR A HAND-IN. Each laying: the table of numbers ('.._ren') and one theorem, a field a fact of the dump's own or the kernel's comparison; each contract: ONE APPLICATION.
-/
namespace Go.Proofs
open Go.Shelf
def Tryz.lclone_ren : Go.Shelf.Ren := ⟨fun | 5 => 61 | 7 => 117 | n => n, fun | 23 => 36 | 25 => 3 | 3 => 100 | 4 => 4 | 20 => 20 | n => n, fun | n => n⟩
theorem Tryz.lclone : Go.Proofs.SlLaysW.n5 Tryz.prog Tryz.lclone_ren := {
  mixed := by kernel_rfl
  f5 := ⟨Tryz.f61.name, by decide, Tryz.func61.trans (congrArg some (by kernel_rfl))⟩
  f7 := Tryz.func117.trans (congrArg some (by kernel_rfl))
  t4 := Tryz.underlying4
  a4 := Tryz.isAgg4
  z4 := Tryz.sizeOf4
  v4 := Tryz.zeroValue4
  t20 := Tryz.underlying20
  a20 := Tryz.isAgg20
  z20 := Tryz.sizeOf20
  v20 := Tryz.zeroValue20
  t23 := Tryz.underlying36
  a23 := Tryz.isAgg36
  z23 := Tryz.sizeOf36
  v23 := Tryz.zeroValue36 }
theorem Tryz.maps_Clone_at (b : Nat) (es : Array MapEntry) (clock : Nat) (w : World) (hb : w.heap[b]? = some (.map es clock)) :
    Calls Tryz.prog 61 #[.map (some b)] w fun e w' => e = .returned (.map (some w.heap.size)) ∧ w' = w.alloc (.map es clock) := AnyW.maps_Clone Tryz.lclone b es clock w hb
end Go.Proofs

namespace Go.Proofs.YtifekogdhjabaaaGreatDoor
open Go.RowKit Go.PK
theorem ln_rng {c p q : Int} (h1 : 1 ≤ c ∧ c ≤ 9999) (h2 : 0 ≤ p ∧ p ≤ 999999999) (h3 : 0 ≤ q ∧ q ≤ 999999999) : (0 ≤ c * p ∧ c * p ≤ 9998999990001) ∧ (0 ≤ c * q ∧ c * q ≤ 9998999990001) ∧ c * (p - q) = c * p - c * q := by
 have a1 : c * p ≤ 9999 * 999999999 := Int.mul_le_mul h1.2 h2.2 h2.1 (by decide)
 have a2 : c * q ≤ 9999 * 999999999 := Int.mul_le_mul h1.2 h3.2 h3.1 (by decide)
 have a3 := Int.mul_nonneg (show 0 ≤ c by omega) h2.1
 have a4 := Int.mul_nonneg (show 0 ≤ c by omega) h3.1
 exact ⟨⟨a3, by omega⟩, ⟨a4, by omega⟩, Int.mul_sub c p q⟩
open Go.RowKit Go.PK
end Go.Proofs.YtifekogdhjabaaaGreatDoor
