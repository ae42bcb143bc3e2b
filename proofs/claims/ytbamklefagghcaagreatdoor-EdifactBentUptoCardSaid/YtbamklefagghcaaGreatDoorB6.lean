/- Of the proofs of YtbamklefagghcaaGreatDoor: Xc Xd Xe Xf Xg Xh Xi, put together. -/
import Derived.Test.YtbamklefagghcaaGreatDoorB5
import Derived.Test.YtbamklefagghcaaGreatDoorB2
import Derived.Shelf.Strconv.ErrVarAll
import Derived.Lib.AtoiAllCases
import Derived.Test.YtbamklefagghcaaGreatDoorB1
import Derived.Test.YtbamklefagghcaaGreatDoorB3
import Derived.Test.YtbamklefagghcaaGreatDoorB4
namespace Go.Proofs.YtbamklefagghcaaGreatDoor
open Go.RowKit Go.PK
set_option linter.unusedVariables false
set_option linter.unusedSimpArgs false
set_option maxHeartbeats 4000000 in
set_option maxRecDepth 100000 in
theorem c_rOrder (o : Ord) (w : World) (hok : o.ok) :
    Calls Tryz.prog 13 #[.agg o.cells.toArray] w fun e w' => ∃ v, e = .returned v ∧ Later w w' ∧ sliceRd tySeg (fun b => w.heap.size ≤ b) w' v (orderR o) ∧ ((orderR o).length = 0 → v = .slice none 0 0) := by
  have hoi : in64 o.id ∧ in64 o.fund ∧ in64 o.src ∧ in64 o.num ∧ in64 o.copies ∧ in64 o.price := hok
  obtain ⟨i1, i2, i3, i4, i5, i6⟩ := hoi
  refine enter (vs := [.agg o.cells.toArray]) Tryz.func13 rfl Tryz.ntmps13 rfl ?_
  refine w_seq ?_
  refine rg_text ?_
  refine x_box rfl rfl rfl rfl ?_
  intro p1
  refine x_val rfl rfl rfl (v_assign rfl) ?_
  refine x_end ?_
  refine t_norm ?_
  refine w_seq ?_
  refine rg_text ?_
  refine x_val rfl rfl rfl (v_load_blk (e := 25) (fz := (0, 0)) (cs := o.cells.toArray) Tryz.underlying25 rfl rfl (.head _) sz25) ?_
  refine x_callb rfl rfl rfl Tryz.func34 (by kernel_rfl) rfl (fun w1 hw1 => c_rWritable o w1) ?_
  intro b5 hb5
  refine x_val rfl rfl rfl (v_assign rfl) ?_
  refine x_end ?_
  refine t_norm ?_
  refine w_seq ?_
  refine w_seq ?_
  refine rg_text ?_
  refine x_val rfl rfl rfl (v_move rfl) ?_
  refine x_bool rfl rfl rfl (v_not rfl) ?_
  intro b7 hb7
  refine x_end ?_
  refine t_norm ?_
  refine w_cond rfl (fun hc7 => ?_) (fun hc7 => ?_)
  · have hw : writB o = false := by rw [hb7, hb5] at hc7; simpa using hc7
    refine w_seq ?_
    refine rg_text ?_
    refine x_val rfl rfl rfl (v_assign rfl) ?_
    refine x_end ?_
    refine t_norm ?_
    refine w_ret ?_
    refine t_ret ?_
    refine ret1 rfl rfl (fun w' hm => ?_)
    rw [show orderR o = [] from by unfold orderR; rw [hw]; rfl]
    exact ⟨_, rfl, hm.base (by simp), sliceRd_nil, fun _ => rfl⟩
  · have hw : writB o = true := by rw [hb7, hb5] at hc7; simpa using hc7
    have hwr := (writB_iff o).1 hw
    obtain ⟨n1, n2, n3, n4, n5, n6⟩ := wrO_nn hwr
    refine w_skip ?_
    refine t_norm ?_
    refine w_seq ?_
    refine rg_tree 25 (.flt 1 (.flt 2 (.flt 6 (.flt 7 (.flt 9 (.flt 10 (.flt 13 (.flt 14 (.flt 17 (.flt 18 (.gr 0 (.flt 3 (.gr 4 (.gr 5 (.gr 8 (.flt 11 (.gr 12 (.flt 15 (.gr 16 (.flt 19 (.gr 20 (.gr 21 (.gr 22 (.gr 23 (.flt 24 .done) .nil) .nil) .nil) (.gr 21 (.gr 20 (.gr 22 (.gr 23 (.flt 24 .done) .nil) .nil) .nil) .nil))) (.gr 21 (.gr 16 (.flt 19 (.gr 20 (.gr 22 (.gr 23 (.flt 24 .done) .nil) .nil) .nil)) .nil) .nil))) (.gr 21 (.gr 12 (.flt 15 (.gr 16 (.flt 19 (.gr 20 (.gr 22 (.gr 23 (.flt 24 .done) .nil) .nil) .nil)) .nil)) .nil) .nil))) (.gr 21 (.gr 8 (.flt 11 (.gr 12 (.flt 15 (.gr 16 (.flt 19 (.gr 20 (.gr 22 (.gr 23 (.flt 24 .done) .nil) .nil) .nil)) .nil)) .nil)) .nil) .nil)) (.gr 21 (.gr 5 (.gr 8 (.flt 11 (.gr 12 (.flt 15 (.gr 16 (.flt 19 (.gr 20 (.gr 22 (.gr 23 (.flt 24 .done) .nil) .nil) .nil)) .nil)) .nil)) .nil) .nil) .nil)) (.gr 21 (.gr 4 (.gr 5 (.gr 8 (.flt 11 (.gr 12 (.flt 15 (.gr 16 (.flt 19 (.gr 20 (.gr 22 (.gr 23 (.flt 24 .done) .nil) .nil) .nil)) .nil)) .nil)) .nil) .nil) .nil) .nil))) (.gr 21 (.gr 0 (.flt 3 (.gr 4 (.gr 5 (.gr 8 (.flt 11 (.gr 12 (.flt 15 (.gr 16 (.flt 19 (.gr 20 (.gr 22 (.gr 23 (.flt 24 .done) .nil) .nil) .nil)) .nil)) .nil)) .nil) .nil) .nil)) .nil) .nil)))))))))))) (by kernel_rfl) (by kernel_rfl) ?_
    refine t_flt (Q := fun _ _ _ => False) ?_
    refine x_val rfl rfl rfl (v_fieldAddr (off' := 0) Tryz.underlying25 rfl sz3 (by decide) rfl rfl) ?_
    refine x_end ?_
    refine t_flt (Q := fun _ _ _ => False) ?_
    refine x_val rfl rfl rfl (v_load Tryz.underlying3 rfl rfl (at_ownL (vs := o.cells) (by repeat (first | exact List.Mem.head _ | apply List.Mem.tail)) rfl)) ?_
    refine x_end ?_
    refine t_flt (Q := fun _ _ _ => False) ?_
    refine x_val rfl rfl rfl (v_fieldAddr (off' := 2) Tryz.underlying25 rfl sz23 (by decide) rfl rfl) ?_
    refine x_end ?_
    refine t_flt (Q := fun _ _ _ => False) ?_
    refine x_val rfl rfl rfl (v_loadN (vs := [Value.int .i64 o.src, .int .i64 o.num]) Tryz.underlying23 rfl sz23 rfl (fun j hj => at_ownL (vs := o.cells) (by repeat (first | exact List.Mem.head _ | apply List.Mem.tail)) (by match j, hj with | 0, _ => rfl | 1, _ => rfl))) ?_
    refine x_end ?_
    refine t_flt (Q := fun _ _ _ => False) ?_
    refine x_val rfl rfl rfl (v_fieldAddr (off' := 4) Tryz.underlying25 rfl sz3 (by decide) rfl rfl) ?_
    refine x_end ?_
    refine t_flt (Q := fun _ _ _ => False) ?_
    refine x_val rfl rfl rfl (v_load Tryz.underlying3 rfl rfl (at_ownL (vs := o.cells) (by repeat (first | exact List.Mem.head _ | apply List.Mem.tail)) rfl)) ?_
    refine x_end ?_
    refine t_flt (Q := fun _ _ _ => False) ?_
    refine x_val rfl rfl rfl (v_fieldAddr (off' := 5) Tryz.underlying25 rfl sz3 (by decide) rfl rfl) ?_
    refine x_end ?_
    refine t_flt (Q := fun _ _ _ => False) ?_
    refine x_val rfl rfl rfl (v_load Tryz.underlying3 rfl rfl (at_ownL (vs := o.cells) (by repeat (first | exact List.Mem.head _ | apply List.Mem.tail)) rfl)) ?_
    refine x_end ?_
    refine t_flt (Q := fun _ _ _ => False) ?_
    refine x_val rfl rfl rfl (v_fieldAddr (off' := 1) Tryz.underlying25 rfl sz3 (by decide) rfl rfl) ?_
    refine x_end ?_
    refine t_flt (Q := fun _ _ _ => False) ?_
    refine x_val rfl rfl rfl (v_load Tryz.underlying3 rfl rfl (at_ownL (vs := o.cells) (by repeat (first | exact List.Mem.head _ | apply List.Mem.tail)) rfl)) ?_
    refine x_end ?_
    refine t_gr (Q := fun _ _ _ => False) ?_ ?_
    · refine x_call (R := fun v wa wb => ∃ A c, v = .agg #[.string (⟨#[85, 78, 72]⟩), .slice A 2 c] ∧ sliceRd (tySlice tyStr) (fun b => wa.heap.size ≤ b) wb (.slice A 2 c) [[⟨#[49]⟩], [⟨#[79, 82, 68, 69, 82, 83]⟩, ⟨#[68]⟩, ⟨#[57, 54, 65]⟩, ⟨#[85, 78]⟩]]) rfl rfl rfl Tryz.func35 (by kernel_rfl) rfl (fun w1 hw1 => (c_header ⟨#[79, 82, 68, 69, 82, 83]⟩ w1 (okS_small (by decide))).mono fun e w2 ⟨u, h1, h2, h3⟩ => seg_out h1 h2 h3) ?_
      intro v8 wa8 wb8 hm8 hl8 hR8
      obtain ⟨A8, c8, rfl, hs8⟩ := hR8
      refine x_end ?_
      refine t_flt (Q := fun _ _ _ => False) ?_
      refine x_callv rfl rfl rfl Tryz.func21 (by kernel_rfl) rfl (fun w1 hw1 => c_Dec o.id w1 n1 i1) ?_
      refine x_end ?_
      refine t_gr (Q := fun _ _ _ => False) ?_ ?_
      · refine x_buildSliceL (cs := [Value.string (⟨#[50, 50, 48]⟩), Value.string (itoaS o.id)]) rfl rfl rfl Tryz.underlying54 sz9 zr9 rfl rfl rfl ?_
        intro p12
        refine x_end ?_
        refine t_gr (Q := fun _ _ _ => False) ?_ ?_
        · refine x_call (R := fun v wa wb => ∃ A c, v = .agg #[.string (⟨#[66, 71, 77]⟩), .slice A 2 c] ∧ sliceRd (tySlice tyStr) (fun b => wa.heap.size ≤ b) wb (.slice A 2 c) [[⟨#[50, 50, 48]⟩], [itoaS o.id]]) rfl rfl rfl Tryz.func36 (by kernel_rfl) rfl (fun w1 hw1 => (c_one (es := [⟨#[50, 50, 48]⟩, itoaS o.id]) (D := fun _ => True) ⟨#[66, 71, 77]⟩ w1 (lits_own (T := tyStr) (D := fun _ => True) (e := 9) (b := p12) [[Value.string (⟨#[50, 50, 48]⟩)], [Value.string (itoaS o.id)]] (xs := [⟨#[50, 50, 48]⟩, itoaS o.id]) hw1 (by repeat (first | exact List.Mem.head _ | apply List.Mem.tail)) rfl (by simp) trivial ⟨⟨rfl, (okS_small (by decide))⟩, ⟨rfl, itoa_ok i1⟩, trivial⟩) (by simp)).mono fun e w2 ⟨u, h1, h2, h3⟩ => seg_out h1 h2 h3) ?_
          intro v13 wa13 wb13 hm13 hl13 hR13
          obtain ⟨A13, c13, rfl, hs13⟩ := hR13
          refine x_end ?_
          refine t_gr (Q := fun _ _ _ => False) ?_ ?_
          · refine x_call (R := fun v wa wb => ∃ A c, v = .agg #[.string (⟨#[76, 73, 78]⟩), .slice A 3 c] ∧ sliceRd (tySlice tyStr) (fun b => wa.heap.size ≤ b) wb (.slice A 3 c) [[itoaS 1], [⟨#[]⟩], [recT o.src o.num, ⟨#[83, 82, 86]⟩]]) rfl rfl rfl Tryz.func37 (by kernel_rfl) rfl (fun w1 hw1 => (c_line 1 (o.src, o.num) w1 ⟨by decide, by unfold in64; decide⟩ ⟨n3, i3⟩ ⟨n4, i4⟩).mono fun e w2 ⟨u, h1, h2, h3⟩ => seg_out h1 h2 h3) ?_
            intro v16 wa16 wb16 hm16 hl16 hR16
            obtain ⟨A16, c16, rfl, hs16⟩ := hR16
            refine x_end ?_
            refine t_flt (Q := fun _ _ _ => False) ?_
            refine x_callv rfl rfl rfl Tryz.func21 (by kernel_rfl) rfl (fun w1 hw1 => c_Dec o.copies w1 n5 i5) ?_
            refine x_end ?_
            refine t_gr (Q := fun _ _ _ => False) ?_ ?_
            · refine x_call (R := fun v wa wb => ∃ A c, v = .agg #[.string (⟨#[81, 84, 89]⟩), .slice A 1 c] ∧ sliceRd (tySlice tyStr) (fun b => wa.heap.size ≤ b) wb (.slice A 1 c) [[⟨#[50, 49]⟩, itoaS o.copies]]) rfl rfl rfl Tryz.func38 (by kernel_rfl) rfl (fun w1 hw1 => (c_pair ⟨#[81, 84, 89]⟩ ⟨#[50, 49]⟩ (itoaS o.copies) w1 (okS_small (by decide)) (itoa_ok i5)).mono fun e w2 ⟨u, h1, h2, h3⟩ => seg_out h1 h2 h3) ?_
              intro v20 wa20 wb20 hm20 hl20 hR20
              obtain ⟨A20, c20, rfl, hs20⟩ := hR20
              refine x_end ?_
              refine t_flt (Q := fun _ _ _ => False) ?_
              refine x_callv rfl rfl rfl Tryz.func21 (by kernel_rfl) rfl (fun w1 hw1 => c_Dec o.price w1 n6 i6) ?_
              refine x_end ?_
              refine t_gr (Q := fun _ _ _ => False) ?_ ?_
              · refine x_call (R := fun v wa wb => ∃ A c, v = .agg #[.string (⟨#[80, 82, 73]⟩), .slice A 1 c] ∧ sliceRd (tySlice tyStr) (fun b => wa.heap.size ≤ b) wb (.slice A 1 c) [[⟨#[65, 65, 65]⟩, itoaS o.price]]) rfl rfl rfl Tryz.func38 (by kernel_rfl) rfl (fun w1 hw1 => (c_pair ⟨#[80, 82, 73]⟩ ⟨#[65, 65, 65]⟩ (itoaS o.price) w1 (okS_small (by decide)) (itoa_ok i6)).mono fun e w2 ⟨u, h1, h2, h3⟩ => seg_out h1 h2 h3) ?_
                intro v24 wa24 wb24 hm24 hl24 hR24
                obtain ⟨A24, c24, rfl, hs24⟩ := hR24
                refine x_end ?_
                refine t_flt (Q := fun _ _ _ => False) ?_
                refine x_callv rfl rfl rfl Tryz.func21 (by kernel_rfl) rfl (fun w1 hw1 => c_Dec o.fund w1 n2 i2) ?_
                refine x_end ?_
                refine t_gr (Q := fun _ _ _ => False) ?_ ?_
                · refine x_call (R := fun v wa wb => ∃ A c, v = .agg #[.string (⟨#[82, 70, 70]⟩), .slice A 1 c] ∧ sliceRd (tySlice tyStr) (fun b => wa.heap.size ≤ b) wb (.slice A 1 c) [[⟨#[66, 70, 78]⟩, itoaS o.fund]]) rfl rfl rfl Tryz.func38 (by kernel_rfl) rfl (fun w1 hw1 => (c_pair ⟨#[82, 70, 70]⟩ ⟨#[66, 70, 78]⟩ (itoaS o.fund) w1 (okS_small (by decide)) (itoa_ok i2)).mono fun e w2 ⟨u, h1, h2, h3⟩ => seg_out h1 h2 h3) ?_
                  intro v28 wa28 wb28 hm28 hl28 hR28
                  obtain ⟨A28, c28, rfl, hs28⟩ := hR28
                  refine x_end ?_
                  refine t_gr (Q := fun _ _ _ => False) ?_ t_nil
                  refine x_buildSliceL (cs := [Value.string (⟨#[55]⟩), Value.string (⟨#[49]⟩)]) rfl rfl rfl Tryz.underlying54 sz9 zr9 rfl rfl rfl ?_
                  intro p29
                  refine x_end ?_
                  refine t_gr (Q := fun _ _ _ => False) ?_ t_nil
                  refine x_call (R := fun v wa wb => ∃ A c, v = .agg #[.string (⟨#[85, 78, 84]⟩), .slice A 2 c] ∧ sliceRd (tySlice tyStr) (fun b => wa.heap.size ≤ b) wb (.slice A 2 c) [[⟨#[55]⟩], [⟨#[49]⟩]]) rfl rfl rfl Tryz.func36 (by kernel_rfl) rfl (fun w1 hw1 => (c_one (es := [⟨#[55]⟩, ⟨#[49]⟩]) (D := fun _ => True) ⟨#[85, 78, 84]⟩ w1 (lits_own (T := tyStr) (D := fun _ => True) (e := 9) (b := p29) [[Value.string (⟨#[55]⟩)], [Value.string (⟨#[49]⟩)]] (xs := [⟨#[55]⟩, ⟨#[49]⟩]) hw1 (by repeat (first | exact List.Mem.head _ | apply List.Mem.tail)) rfl (by simp) trivial ⟨⟨rfl, (okS_small (by decide))⟩, ⟨rfl, (okS_small (by decide))⟩, trivial⟩) (by simp)).mono fun e w2 ⟨u, h1, h2, h3⟩ => seg_out h1 h2 h3) ?_
                  intro v30 wa30 wb30 hm30 hl30 hR30
                  obtain ⟨A30, c30, rfl, hs30⟩ := hR30
                  refine x_end ?_
                  refine t_gr (Q := fun _ _ _ => False) ?_ t_nil
                  refine x_buildSliceL (cs := ([[Value.string (⟨#[85, 78, 72]⟩), .slice A8 2 c8], [Value.string (⟨#[66, 71, 77]⟩), .slice A13 2 c13], [Value.string (⟨#[76, 73, 78]⟩), .slice A16 3 c16], [Value.string (⟨#[81, 84, 89]⟩), .slice A20 1 c20], [Value.string (⟨#[80, 82, 73]⟩), .slice A24 1 c24], [Value.string (⟨#[82, 70, 70]⟩), .slice A28 1 c28], [Value.string (⟨#[85, 78, 84]⟩), .slice A30 2 c30]] : List (List Value)).flatten) rfl rfl rfl Tryz.underlying29 sz49 zr49 rfl rfl rfl ?_
                  intro p31
                  refine x_end ?_
                  refine t_flt (Q := fun _ _ _ => False) ?_
                  refine x_val rfl rfl rfl (v_assign rfl) ?_
                  refine x_end ?_
                  refine t_done ?_
                  refine x_end ?_
                  refine t_norm ?_
                  refine w_ret ?_
                  refine ret1 rfl rfl (fun w' hm => ?_)
                  rw [show orderR o = orderX o from by unfold orderR; rw [if_pos hw, orderP_X (wrO_nn hwr)]]
                  exact ⟨_, rfl, hm.base (by simp), RdAll.rd (e := 49) (css := [[Value.string (⟨#[85, 78, 72]⟩), .slice A8 2 c8], [Value.string (⟨#[66, 71, 77]⟩), .slice A13 2 c13], [Value.string (⟨#[76, 73, 78]⟩), .slice A16 3 c16], [Value.string (⟨#[81, 84, 89]⟩), .slice A20 1 c20], [Value.string (⟨#[80, 82, 73]⟩), .slice A24 1 c24], [Value.string (⟨#[82, 70, 70]⟩), .slice A28 1 c28], [Value.string (⟨#[85, 78, 84]⟩), .slice A30 2 c30]]) (xs := orderX o) (.cons (tySeg_mk (x := ⟨⟨#[85, 78, 72]⟩, [[⟨#[49]⟩], [⟨#[79, 82, 68, 69, 82, 83]⟩, ⟨#[68]⟩, ⟨#[57, 54, 65]⟩, ⟨#[85, 78]⟩]]⟩) rfl (show (3 : Nat) ≤ 9223372036854775807 by decide) (hs8.keep (Kept.made hm (by repeat (first | exact List.Mem.head _ | apply List.Mem.tail)) hm8 (hm8.base (by simp)).size))) (.cons (tySeg_mk (x := ⟨⟨#[66, 71, 77]⟩, [[⟨#[50, 50, 48]⟩], [itoaS o.id]]⟩) rfl (show (3 : Nat) ≤ 9223372036854775807 by decide) (hs13.keep (Kept.made hm (by repeat (first | exact List.Mem.head _ | apply List.Mem.tail)) hm13 (hm13.base (by simp)).size))) (.cons (tySeg_mk (x := ⟨⟨#[76, 73, 78]⟩, [[itoaS 1], [⟨#[]⟩], [recT o.src o.num, ⟨#[83, 82, 86]⟩]]⟩) rfl (show (3 : Nat) ≤ 9223372036854775807 by decide) (hs16.keep (Kept.made hm (by repeat (first | exact List.Mem.head _ | apply List.Mem.tail)) hm16 (hm16.base (by simp)).size))) (.cons (tySeg_mk (x := ⟨⟨#[81, 84, 89]⟩, [[⟨#[50, 49]⟩, itoaS o.copies]]⟩) rfl (show (3 : Nat) ≤ 9223372036854775807 by decide) (hs20.keep (Kept.made hm (by repeat (first | exact List.Mem.head _ | apply List.Mem.tail)) hm20 (hm20.base (by simp)).size))) (.cons (tySeg_mk (x := ⟨⟨#[80, 82, 73]⟩, [[⟨#[65, 65, 65]⟩, itoaS o.price]]⟩) rfl (show (3 : Nat) ≤ 9223372036854775807 by decide) (hs24.keep (Kept.made hm (by repeat (first | exact List.Mem.head _ | apply List.Mem.tail)) hm24 (hm24.base (by simp)).size))) (.cons (tySeg_mk (x := ⟨⟨#[82, 70, 70]⟩, [[⟨#[66, 70, 78]⟩, itoaS o.fund]]⟩) rfl (show (3 : Nat) ≤ 9223372036854775807 by decide) (hs28.keep (Kept.made hm (by repeat (first | exact List.Mem.head _ | apply List.Mem.tail)) hm28 (hm28.base (by simp)).size))) (.cons (tySeg_mk (x := ⟨⟨#[85, 78, 84]⟩, [[⟨#[55]⟩], [⟨#[49]⟩]]⟩) rfl (show (3 : Nat) ≤ 9223372036854775807 by decide) (hs30.keep (Kept.made hm (by repeat (first | exact List.Mem.head _ | apply List.Mem.tail)) hm30 (hm30.base (by simp)).size))) (.nil)))))))) hm (.head _) (by repeat (first | exact List.Mem.head _ | apply List.Mem.tail)) rfl (show (7 : Nat) ≤ maxLen by decide), fun h => absurd (show (7 : Nat) = 0 from h) (by decide)⟩
                refine t_gr (Q := fun _ _ _ => False) ?_ t_nil
                refine x_buildSliceL (cs := [Value.string (⟨#[55]⟩), Value.string (⟨#[49]⟩)]) rfl rfl rfl Tryz.underlying54 sz9 zr9 rfl rfl rfl ?_
                intro p29
                refine x_end ?_
                refine t_gr (Q := fun _ _ _ => False) ?_ t_nil
                refine x_call (R := fun v wa wb => ∃ A c, v = .agg #[.string (⟨#[82, 70, 70]⟩), .slice A 1 c] ∧ sliceRd (tySlice tyStr) (fun b => wa.heap.size ≤ b) wb (.slice A 1 c) [[⟨#[66, 70, 78]⟩, itoaS o.fund]]) rfl rfl rfl Tryz.func38 (by kernel_rfl) rfl (fun w1 hw1 => (c_pair ⟨#[82, 70, 70]⟩ ⟨#[66, 70, 78]⟩ (itoaS o.fund) w1 (okS_small (by decide)) (itoa_ok i2)).mono fun e w2 ⟨u, h1, h2, h3⟩ => seg_out h1 h2 h3) ?_
                intro v28 wa28 wb28 hm28 hl28 hR28
                obtain ⟨A28, c28, rfl, hs28⟩ := hR28
                refine x_end ?_
                refine t_gr (Q := fun _ _ _ => False) ?_ t_nil
                refine x_call (R := fun v wa wb => ∃ A c, v = .agg #[.string (⟨#[85, 78, 84]⟩), .slice A 2 c] ∧ sliceRd (tySlice tyStr) (fun b => wa.heap.size ≤ b) wb (.slice A 2 c) [[⟨#[55]⟩], [⟨#[49]⟩]]) rfl rfl rfl Tryz.func36 (by kernel_rfl) rfl (fun w1 hw1 => (c_one (es := [⟨#[55]⟩, ⟨#[49]⟩]) (D := fun _ => True) ⟨#[85, 78, 84]⟩ w1 (lits_own (T := tyStr) (D := fun _ => True) (e := 9) (b := p29) [[Value.string (⟨#[55]⟩)], [Value.string (⟨#[49]⟩)]] (xs := [⟨#[55]⟩, ⟨#[49]⟩]) hw1 (by repeat (first | exact List.Mem.head _ | apply List.Mem.tail)) rfl (by simp) trivial ⟨⟨rfl, (okS_small (by decide))⟩, ⟨rfl, (okS_small (by decide))⟩, trivial⟩) (by simp)).mono fun e w2 ⟨u, h1, h2, h3⟩ => seg_out h1 h2 h3) ?_
                intro v30 wa30 wb30 hm30 hl30 hR30
                obtain ⟨A30, c30, rfl, hs30⟩ := hR30
                refine x_end ?_
                refine t_gr (Q := fun _ _ _ => False) ?_ t_nil
                refine x_buildSliceL (cs := ([[Value.string (⟨#[85, 78, 72]⟩), .slice A8 2 c8], [Value.string (⟨#[66, 71, 77]⟩), .slice A13 2 c13], [Value.string (⟨#[76, 73, 78]⟩), .slice A16 3 c16], [Value.string (⟨#[81, 84, 89]⟩), .slice A20 1 c20], [Value.string (⟨#[80, 82, 73]⟩), .slice A24 1 c24], [Value.string (⟨#[82, 70, 70]⟩), .slice A28 1 c28], [Value.string (⟨#[85, 78, 84]⟩), .slice A30 2 c30]] : List (List Value)).flatten) rfl rfl rfl Tryz.underlying29 sz49 zr49 rfl rfl rfl ?_
                intro p31
                refine x_end ?_
                refine t_flt (Q := fun _ _ _ => False) ?_
                refine x_val rfl rfl rfl (v_assign rfl) ?_
                refine x_end ?_
                refine t_done ?_
                refine x_end ?_
                refine t_norm ?_
                refine w_ret ?_
                refine ret1 rfl rfl (fun w' hm => ?_)
                rw [show orderR o = orderX o from by unfold orderR; rw [if_pos hw, orderP_X (wrO_nn hwr)]]
                exact ⟨_, rfl, hm.base (by simp), RdAll.rd (e := 49) (css := [[Value.string (⟨#[85, 78, 72]⟩), .slice A8 2 c8], [Value.string (⟨#[66, 71, 77]⟩), .slice A13 2 c13], [Value.string (⟨#[76, 73, 78]⟩), .slice A16 3 c16], [Value.string (⟨#[81, 84, 89]⟩), .slice A20 1 c20], [Value.string (⟨#[80, 82, 73]⟩), .slice A24 1 c24], [Value.string (⟨#[82, 70, 70]⟩), .slice A28 1 c28], [Value.string (⟨#[85, 78, 84]⟩), .slice A30 2 c30]]) (xs := orderX o) (.cons (tySeg_mk (x := ⟨⟨#[85, 78, 72]⟩, [[⟨#[49]⟩], [⟨#[79, 82, 68, 69, 82, 83]⟩, ⟨#[68]⟩, ⟨#[57, 54, 65]⟩, ⟨#[85, 78]⟩]]⟩) rfl (show (3 : Nat) ≤ 9223372036854775807 by decide) (hs8.keep (Kept.made hm (by repeat (first | exact List.Mem.head _ | apply List.Mem.tail)) hm8 (hm8.base (by simp)).size))) (.cons (tySeg_mk (x := ⟨⟨#[66, 71, 77]⟩, [[⟨#[50, 50, 48]⟩], [itoaS o.id]]⟩) rfl (show (3 : Nat) ≤ 9223372036854775807 by decide) (hs13.keep (Kept.made hm (by repeat (first | exact List.Mem.head _ | apply List.Mem.tail)) hm13 (hm13.base (by simp)).size))) (.cons (tySeg_mk (x := ⟨⟨#[76, 73, 78]⟩, [[itoaS 1], [⟨#[]⟩], [recT o.src o.num, ⟨#[83, 82, 86]⟩]]⟩) rfl (show (3 : Nat) ≤ 9223372036854775807 by decide) (hs16.keep (Kept.made hm (by repeat (first | exact List.Mem.head _ | apply List.Mem.tail)) hm16 (hm16.base (by simp)).size))) (.cons (tySeg_mk (x := ⟨⟨#[81, 84, 89]⟩, [[⟨#[50, 49]⟩, itoaS o.copies]]⟩) rfl (show (3 : Nat) ≤ 9223372036854775807 by decide) (hs20.keep (Kept.made hm (by repeat (first | exact List.Mem.head _ | apply List.Mem.tail)) hm20 (hm20.base (by simp)).size))) (.cons (tySeg_mk (x := ⟨⟨#[80, 82, 73]⟩, [[⟨#[65, 65, 65]⟩, itoaS o.price]]⟩) rfl (show (3 : Nat) ≤ 9223372036854775807 by decide) (hs24.keep (Kept.made hm (by repeat (first | exact List.Mem.head _ | apply List.Mem.tail)) hm24 (hm24.base (by simp)).size))) (.cons (tySeg_mk (x := ⟨⟨#[82, 70, 70]⟩, [[⟨#[66, 70, 78]⟩, itoaS o.fund]]⟩) rfl (show (3 : Nat) ≤ 9223372036854775807 by decide) (hs28.keep (Kept.made hm (by repeat (first | exact List.Mem.head _ | apply List.Mem.tail)) hm28 (hm28.base (by simp)).size))) (.cons (tySeg_mk (x := ⟨⟨#[85, 78, 84]⟩, [[⟨#[55]⟩], [⟨#[49]⟩]]⟩) rfl (show (3 : Nat) ≤ 9223372036854775807 by decide) (hs30.keep (Kept.made hm (by repeat (first | exact List.Mem.head _ | apply List.Mem.tail)) hm30 (hm30.base (by simp)).size))) (.nil)))))))) hm (.head _) (by repeat (first | exact List.Mem.head _ | apply List.Mem.tail)) rfl (show (7 : Nat) ≤ maxLen by decide), fun h => absurd (show (7 : Nat) = 0 from h) (by decide)⟩
              refine t_gr (Q := fun _ _ _ => False) ?_ t_nil
              refine x_buildSliceL (cs := [Value.string (⟨#[55]⟩), Value.string (⟨#[49]⟩)]) rfl rfl rfl Tryz.underlying54 sz9 zr9 rfl rfl rfl ?_
              intro p29
              refine x_end ?_
              refine t_gr (Q := fun _ _ _ => False) ?_ t_nil
              refine x_call (R := fun v wa wb => ∃ A c, v = .agg #[.string (⟨#[80, 82, 73]⟩), .slice A 1 c] ∧ sliceRd (tySlice tyStr) (fun b => wa.heap.size ≤ b) wb (.slice A 1 c) [[⟨#[65, 65, 65]⟩, itoaS o.price]]) rfl rfl rfl Tryz.func38 (by kernel_rfl) rfl (fun w1 hw1 => (c_pair ⟨#[80, 82, 73]⟩ ⟨#[65, 65, 65]⟩ (itoaS o.price) w1 (okS_small (by decide)) (itoa_ok i6)).mono fun e w2 ⟨u, h1, h2, h3⟩ => seg_out h1 h2 h3) ?_
              intro v24 wa24 wb24 hm24 hl24 hR24
              obtain ⟨A24, c24, rfl, hs24⟩ := hR24
              refine x_end ?_
              refine t_flt (Q := fun _ _ _ => False) ?_
              refine x_callv rfl rfl rfl Tryz.func21 (by kernel_rfl) rfl (fun w1 hw1 => c_Dec o.fund w1 n2 i2) ?_
              refine x_end ?_
              refine t_gr (Q := fun _ _ _ => False) ?_ t_nil
              refine x_call (R := fun v wa wb => ∃ A c, v = .agg #[.string (⟨#[82, 70, 70]⟩), .slice A 1 c] ∧ sliceRd (tySlice tyStr) (fun b => wa.heap.size ≤ b) wb (.slice A 1 c) [[⟨#[66, 70, 78]⟩, itoaS o.fund]]) rfl rfl rfl Tryz.func38 (by kernel_rfl) rfl (fun w1 hw1 => (c_pair ⟨#[82, 70, 70]⟩ ⟨#[66, 70, 78]⟩ (itoaS o.fund) w1 (okS_small (by decide)) (itoa_ok i2)).mono fun e w2 ⟨u, h1, h2, h3⟩ => seg_out h1 h2 h3) ?_
              intro v28 wa28 wb28 hm28 hl28 hR28
              obtain ⟨A28, c28, rfl, hs28⟩ := hR28
              refine x_end ?_
              refine t_gr (Q := fun _ _ _ => False) ?_ t_nil
              refine x_call (R := fun v wa wb => ∃ A c, v = .agg #[.string (⟨#[85, 78, 84]⟩), .slice A 2 c] ∧ sliceRd (tySlice tyStr) (fun b => wa.heap.size ≤ b) wb (.slice A 2 c) [[⟨#[55]⟩], [⟨#[49]⟩]]) rfl rfl rfl Tryz.func36 (by kernel_rfl) rfl (fun w1 hw1 => (c_one (es := [⟨#[55]⟩, ⟨#[49]⟩]) (D := fun _ => True) ⟨#[85, 78, 84]⟩ w1 (lits_own (T := tyStr) (D := fun _ => True) (e := 9) (b := p29) [[Value.string (⟨#[55]⟩)], [Value.string (⟨#[49]⟩)]] (xs := [⟨#[55]⟩, ⟨#[49]⟩]) hw1 (by repeat (first | exact List.Mem.head _ | apply List.Mem.tail)) rfl (by simp) trivial ⟨⟨rfl, (okS_small (by decide))⟩, ⟨rfl, (okS_small (by decide))⟩, trivial⟩) (by simp)).mono fun e w2 ⟨u, h1, h2, h3⟩ => seg_out h1 h2 h3) ?_
              intro v30 wa30 wb30 hm30 hl30 hR30
              obtain ⟨A30, c30, rfl, hs30⟩ := hR30
              refine x_end ?_
              refine t_gr (Q := fun _ _ _ => False) ?_ t_nil
              refine x_buildSliceL (cs := ([[Value.string (⟨#[85, 78, 72]⟩), .slice A8 2 c8], [Value.string (⟨#[66, 71, 77]⟩), .slice A13 2 c13], [Value.string (⟨#[76, 73, 78]⟩), .slice A16 3 c16], [Value.string (⟨#[81, 84, 89]⟩), .slice A20 1 c20], [Value.string (⟨#[80, 82, 73]⟩), .slice A24 1 c24], [Value.string (⟨#[82, 70, 70]⟩), .slice A28 1 c28], [Value.string (⟨#[85, 78, 84]⟩), .slice A30 2 c30]] : List (List Value)).flatten) rfl rfl rfl Tryz.underlying29 sz49 zr49 rfl rfl rfl ?_
              intro p31
              refine x_end ?_
              refine t_flt (Q := fun _ _ _ => False) ?_
              refine x_val rfl rfl rfl (v_assign rfl) ?_
              refine x_end ?_
              refine t_done ?_
              refine x_end ?_
              refine t_norm ?_
              refine w_ret ?_
              refine ret1 rfl rfl (fun w' hm => ?_)
              rw [show orderR o = orderX o from by unfold orderR; rw [if_pos hw, orderP_X (wrO_nn hwr)]]
              exact ⟨_, rfl, hm.base (by simp), RdAll.rd (e := 49) (css := [[Value.string (⟨#[85, 78, 72]⟩), .slice A8 2 c8], [Value.string (⟨#[66, 71, 77]⟩), .slice A13 2 c13], [Value.string (⟨#[76, 73, 78]⟩), .slice A16 3 c16], [Value.string (⟨#[81, 84, 89]⟩), .slice A20 1 c20], [Value.string (⟨#[80, 82, 73]⟩), .slice A24 1 c24], [Value.string (⟨#[82, 70, 70]⟩), .slice A28 1 c28], [Value.string (⟨#[85, 78, 84]⟩), .slice A30 2 c30]]) (xs := orderX o) (.cons (tySeg_mk (x := ⟨⟨#[85, 78, 72]⟩, [[⟨#[49]⟩], [⟨#[79, 82, 68, 69, 82, 83]⟩, ⟨#[68]⟩, ⟨#[57, 54, 65]⟩, ⟨#[85, 78]⟩]]⟩) rfl (show (3 : Nat) ≤ 9223372036854775807 by decide) (hs8.keep (Kept.made hm (by repeat (first | exact List.Mem.head _ | apply List.Mem.tail)) hm8 (hm8.base (by simp)).size))) (.cons (tySeg_mk (x := ⟨⟨#[66, 71, 77]⟩, [[⟨#[50, 50, 48]⟩], [itoaS o.id]]⟩) rfl (show (3 : Nat) ≤ 9223372036854775807 by decide) (hs13.keep (Kept.made hm (by repeat (first | exact List.Mem.head _ | apply List.Mem.tail)) hm13 (hm13.base (by simp)).size))) (.cons (tySeg_mk (x := ⟨⟨#[76, 73, 78]⟩, [[itoaS 1], [⟨#[]⟩], [recT o.src o.num, ⟨#[83, 82, 86]⟩]]⟩) rfl (show (3 : Nat) ≤ 9223372036854775807 by decide) (hs16.keep (Kept.made hm (by repeat (first | exact List.Mem.head _ | apply List.Mem.tail)) hm16 (hm16.base (by simp)).size))) (.cons (tySeg_mk (x := ⟨⟨#[81, 84, 89]⟩, [[⟨#[50, 49]⟩, itoaS o.copies]]⟩) rfl (show (3 : Nat) ≤ 9223372036854775807 by decide) (hs20.keep (Kept.made hm (by repeat (first | exact List.Mem.head _ | apply List.Mem.tail)) hm20 (hm20.base (by simp)).size))) (.cons (tySeg_mk (x := ⟨⟨#[80, 82, 73]⟩, [[⟨#[65, 65, 65]⟩, itoaS o.price]]⟩) rfl (show (3 : Nat) ≤ 9223372036854775807 by decide) (hs24.keep (Kept.made hm (by repeat (first | exact List.Mem.head _ | apply List.Mem.tail)) hm24 (hm24.base (by simp)).size))) (.cons (tySeg_mk (x := ⟨⟨#[82, 70, 70]⟩, [[⟨#[66, 70, 78]⟩, itoaS o.fund]]⟩) rfl (show (3 : Nat) ≤ 9223372036854775807 by decide) (hs28.keep (Kept.made hm (by repeat (first | exact List.Mem.head _ | apply List.Mem.tail)) hm28 (hm28.base (by simp)).size))) (.cons (tySeg_mk (x := ⟨⟨#[85, 78, 84]⟩, [[⟨#[55]⟩], [⟨#[49]⟩]]⟩) rfl (show (3 : Nat) ≤ 9223372036854775807 by decide) (hs30.keep (Kept.made hm (by repeat (first | exact List.Mem.head _ | apply List.Mem.tail)) hm30 (hm30.base (by simp)).size))) (.nil)))))))) hm (.head _) (by repeat (first | exact List.Mem.head _ | apply List.Mem.tail)) rfl (show (7 : Nat) ≤ maxLen by decide), fun h => absurd (show (7 : Nat) = 0 from h) (by decide)⟩
            refine t_gr (Q := fun _ _ _ => False) ?_ t_nil
            refine x_buildSliceL (cs := [Value.string (⟨#[55]⟩), Value.string (⟨#[49]⟩)]) rfl rfl rfl Tryz.underlying54 sz9 zr9 rfl rfl rfl ?_
            intro p29
            refine x_end ?_
            refine t_gr (Q := fun _ _ _ => False) ?_ t_nil
            refine x_call (R := fun v wa wb => ∃ A c, v = .agg #[.string (⟨#[81, 84, 89]⟩), .slice A 1 c] ∧ sliceRd (tySlice tyStr) (fun b => wa.heap.size ≤ b) wb (.slice A 1 c) [[⟨#[50, 49]⟩, itoaS o.copies]]) rfl rfl rfl Tryz.func38 (by kernel_rfl) rfl (fun w1 hw1 => (c_pair ⟨#[81, 84, 89]⟩ ⟨#[50, 49]⟩ (itoaS o.copies) w1 (okS_small (by decide)) (itoa_ok i5)).mono fun e w2 ⟨u, h1, h2, h3⟩ => seg_out h1 h2 h3) ?_
            intro v20 wa20 wb20 hm20 hl20 hR20
            obtain ⟨A20, c20, rfl, hs20⟩ := hR20
            refine x_end ?_
            refine t_flt (Q := fun _ _ _ => False) ?_
            refine x_callv rfl rfl rfl Tryz.func21 (by kernel_rfl) rfl (fun w1 hw1 => c_Dec o.price w1 n6 i6) ?_
            refine x_end ?_
            refine t_gr (Q := fun _ _ _ => False) ?_ t_nil
            refine x_call (R := fun v wa wb => ∃ A c, v = .agg #[.string (⟨#[80, 82, 73]⟩), .slice A 1 c] ∧ sliceRd (tySlice tyStr) (fun b => wa.heap.size ≤ b) wb (.slice A 1 c) [[⟨#[65, 65, 65]⟩, itoaS o.price]]) rfl rfl rfl Tryz.func38 (by kernel_rfl) rfl (fun w1 hw1 => (c_pair ⟨#[80, 82, 73]⟩ ⟨#[65, 65, 65]⟩ (itoaS o.price) w1 (okS_small (by decide)) (itoa_ok i6)).mono fun e w2 ⟨u, h1, h2, h3⟩ => seg_out h1 h2 h3) ?_
            intro v24 wa24 wb24 hm24 hl24 hR24
            obtain ⟨A24, c24, rfl, hs24⟩ := hR24
            refine x_end ?_
            refine t_flt (Q := fun _ _ _ => False) ?_
            refine x_callv rfl rfl rfl Tryz.func21 (by kernel_rfl) rfl (fun w1 hw1 => c_Dec o.fund w1 n2 i2) ?_
            refine x_end ?_
            refine t_gr (Q := fun _ _ _ => False) ?_ t_nil
            refine x_call (R := fun v wa wb => ∃ A c, v = .agg #[.string (⟨#[82, 70, 70]⟩), .slice A 1 c] ∧ sliceRd (tySlice tyStr) (fun b => wa.heap.size ≤ b) wb (.slice A 1 c) [[⟨#[66, 70, 78]⟩, itoaS o.fund]]) rfl rfl rfl Tryz.func38 (by kernel_rfl) rfl (fun w1 hw1 => (c_pair ⟨#[82, 70, 70]⟩ ⟨#[66, 70, 78]⟩ (itoaS o.fund) w1 (okS_small (by decide)) (itoa_ok i2)).mono fun e w2 ⟨u, h1, h2, h3⟩ => seg_out h1 h2 h3) ?_
            intro v28 wa28 wb28 hm28 hl28 hR28
            obtain ⟨A28, c28, rfl, hs28⟩ := hR28
            refine x_end ?_
            refine t_gr (Q := fun _ _ _ => False) ?_ t_nil
            refine x_call (R := fun v wa wb => ∃ A c, v = .agg #[.string (⟨#[85, 78, 84]⟩), .slice A 2 c] ∧ sliceRd (tySlice tyStr) (fun b => wa.heap.size ≤ b) wb (.slice A 2 c) [[⟨#[55]⟩], [⟨#[49]⟩]]) rfl rfl rfl Tryz.func36 (by kernel_rfl) rfl (fun w1 hw1 => (c_one (es := [⟨#[55]⟩, ⟨#[49]⟩]) (D := fun _ => True) ⟨#[85, 78, 84]⟩ w1 (lits_own (T := tyStr) (D := fun _ => True) (e := 9) (b := p29) [[Value.string (⟨#[55]⟩)], [Value.string (⟨#[49]⟩)]] (xs := [⟨#[55]⟩, ⟨#[49]⟩]) hw1 (by repeat (first | exact List.Mem.head _ | apply List.Mem.tail)) rfl (by simp) trivial ⟨⟨rfl, (okS_small (by decide))⟩, ⟨rfl, (okS_small (by decide))⟩, trivial⟩) (by simp)).mono fun e w2 ⟨u, h1, h2, h3⟩ => seg_out h1 h2 h3) ?_
            intro v30 wa30 wb30 hm30 hl30 hR30
            obtain ⟨A30, c30, rfl, hs30⟩ := hR30
            refine x_end ?_
            refine t_gr (Q := fun _ _ _ => False) ?_ t_nil
            refine x_buildSliceL (cs := ([[Value.string (⟨#[85, 78, 72]⟩), .slice A8 2 c8], [Value.string (⟨#[66, 71, 77]⟩), .slice A13 2 c13], [Value.string (⟨#[76, 73, 78]⟩), .slice A16 3 c16], [Value.string (⟨#[81, 84, 89]⟩), .slice A20 1 c20], [Value.string (⟨#[80, 82, 73]⟩), .slice A24 1 c24], [Value.string (⟨#[82, 70, 70]⟩), .slice A28 1 c28], [Value.string (⟨#[85, 78, 84]⟩), .slice A30 2 c30]] : List (List Value)).flatten) rfl rfl rfl Tryz.underlying29 sz49 zr49 rfl rfl rfl ?_
            intro p31
            refine x_end ?_
            refine t_flt (Q := fun _ _ _ => False) ?_
            refine x_val rfl rfl rfl (v_assign rfl) ?_
            refine x_end ?_
            refine t_done ?_
            refine x_end ?_
            refine t_norm ?_
            refine w_ret ?_
            refine ret1 rfl rfl (fun w' hm => ?_)
            rw [show orderR o = orderX o from by unfold orderR; rw [if_pos hw, orderP_X (wrO_nn hwr)]]
            exact ⟨_, rfl, hm.base (by simp), RdAll.rd (e := 49) (css := [[Value.string (⟨#[85, 78, 72]⟩), .slice A8 2 c8], [Value.string (⟨#[66, 71, 77]⟩), .slice A13 2 c13], [Value.string (⟨#[76, 73, 78]⟩), .slice A16 3 c16], [Value.string (⟨#[81, 84, 89]⟩), .slice A20 1 c20], [Value.string (⟨#[80, 82, 73]⟩), .slice A24 1 c24], [Value.string (⟨#[82, 70, 70]⟩), .slice A28 1 c28], [Value.string (⟨#[85, 78, 84]⟩), .slice A30 2 c30]]) (xs := orderX o) (.cons (tySeg_mk (x := ⟨⟨#[85, 78, 72]⟩, [[⟨#[49]⟩], [⟨#[79, 82, 68, 69, 82, 83]⟩, ⟨#[68]⟩, ⟨#[57, 54, 65]⟩, ⟨#[85, 78]⟩]]⟩) rfl (show (3 : Nat) ≤ 9223372036854775807 by decide) (hs8.keep (Kept.made hm (by repeat (first | exact List.Mem.head _ | apply List.Mem.tail)) hm8 (hm8.base (by simp)).size))) (.cons (tySeg_mk (x := ⟨⟨#[66, 71, 77]⟩, [[⟨#[50, 50, 48]⟩], [itoaS o.id]]⟩) rfl (show (3 : Nat) ≤ 9223372036854775807 by decide) (hs13.keep (Kept.made hm (by repeat (first | exact List.Mem.head _ | apply List.Mem.tail)) hm13 (hm13.base (by simp)).size))) (.cons (tySeg_mk (x := ⟨⟨#[76, 73, 78]⟩, [[itoaS 1], [⟨#[]⟩], [recT o.src o.num, ⟨#[83, 82, 86]⟩]]⟩) rfl (show (3 : Nat) ≤ 9223372036854775807 by decide) (hs16.keep (Kept.made hm (by repeat (first | exact List.Mem.head _ | apply List.Mem.tail)) hm16 (hm16.base (by simp)).size))) (.cons (tySeg_mk (x := ⟨⟨#[81, 84, 89]⟩, [[⟨#[50, 49]⟩, itoaS o.copies]]⟩) rfl (show (3 : Nat) ≤ 9223372036854775807 by decide) (hs20.keep (Kept.made hm (by repeat (first | exact List.Mem.head _ | apply List.Mem.tail)) hm20 (hm20.base (by simp)).size))) (.cons (tySeg_mk (x := ⟨⟨#[80, 82, 73]⟩, [[⟨#[65, 65, 65]⟩, itoaS o.price]]⟩) rfl (show (3 : Nat) ≤ 9223372036854775807 by decide) (hs24.keep (Kept.made hm (by repeat (first | exact List.Mem.head _ | apply List.Mem.tail)) hm24 (hm24.base (by simp)).size))) (.cons (tySeg_mk (x := ⟨⟨#[82, 70, 70]⟩, [[⟨#[66, 70, 78]⟩, itoaS o.fund]]⟩) rfl (show (3 : Nat) ≤ 9223372036854775807 by decide) (hs28.keep (Kept.made hm (by repeat (first | exact List.Mem.head _ | apply List.Mem.tail)) hm28 (hm28.base (by simp)).size))) (.cons (tySeg_mk (x := ⟨⟨#[85, 78, 84]⟩, [[⟨#[55]⟩], [⟨#[49]⟩]]⟩) rfl (show (3 : Nat) ≤ 9223372036854775807 by decide) (hs30.keep (Kept.made hm (by repeat (first | exact List.Mem.head _ | apply List.Mem.tail)) hm30 (hm30.base (by simp)).size))) (.nil)))))))) hm (.head _) (by repeat (first | exact List.Mem.head _ | apply List.Mem.tail)) rfl (show (7 : Nat) ≤ maxLen by decide), fun h => absurd (show (7 : Nat) = 0 from h) (by decide)⟩
          refine t_gr (Q := fun _ _ _ => False) ?_ t_nil
          refine x_buildSliceL (cs := [Value.string (⟨#[55]⟩), Value.string (⟨#[49]⟩)]) rfl rfl rfl Tryz.underlying54 sz9 zr9 rfl rfl rfl ?_
          intro p29
          refine x_end ?_
          refine t_gr (Q := fun _ _ _ => False) ?_ t_nil
          refine x_call (R := fun v wa wb => ∃ A c, v = .agg #[.string (⟨#[76, 73, 78]⟩), .slice A 3 c] ∧ sliceRd (tySlice tyStr) (fun b => wa.heap.size ≤ b) wb (.slice A 3 c) [[itoaS 1], [⟨#[]⟩], [recT o.src o.num, ⟨#[83, 82, 86]⟩]]) rfl rfl rfl Tryz.func37 (by kernel_rfl) rfl (fun w1 hw1 => (c_line 1 (o.src, o.num) w1 ⟨by decide, by unfold in64; decide⟩ ⟨n3, i3⟩ ⟨n4, i4⟩).mono fun e w2 ⟨u, h1, h2, h3⟩ => seg_out h1 h2 h3) ?_
          intro v16 wa16 wb16 hm16 hl16 hR16
          obtain ⟨A16, c16, rfl, hs16⟩ := hR16
          refine x_end ?_
          refine t_flt (Q := fun _ _ _ => False) ?_
          refine x_callv rfl rfl rfl Tryz.func21 (by kernel_rfl) rfl (fun w1 hw1 => c_Dec o.copies w1 n5 i5) ?_
          refine x_end ?_
          refine t_gr (Q := fun _ _ _ => False) ?_ t_nil
          refine x_call (R := fun v wa wb => ∃ A c, v = .agg #[.string (⟨#[81, 84, 89]⟩), .slice A 1 c] ∧ sliceRd (tySlice tyStr) (fun b => wa.heap.size ≤ b) wb (.slice A 1 c) [[⟨#[50, 49]⟩, itoaS o.copies]]) rfl rfl rfl Tryz.func38 (by kernel_rfl) rfl (fun w1 hw1 => (c_pair ⟨#[81, 84, 89]⟩ ⟨#[50, 49]⟩ (itoaS o.copies) w1 (okS_small (by decide)) (itoa_ok i5)).mono fun e w2 ⟨u, h1, h2, h3⟩ => seg_out h1 h2 h3) ?_
          intro v20 wa20 wb20 hm20 hl20 hR20
          obtain ⟨A20, c20, rfl, hs20⟩ := hR20
          refine x_end ?_
          refine t_flt (Q := fun _ _ _ => False) ?_
          refine x_callv rfl rfl rfl Tryz.func21 (by kernel_rfl) rfl (fun w1 hw1 => c_Dec o.price w1 n6 i6) ?_
          refine x_end ?_
          refine t_gr (Q := fun _ _ _ => False) ?_ t_nil
          refine x_call (R := fun v wa wb => ∃ A c, v = .agg #[.string (⟨#[80, 82, 73]⟩), .slice A 1 c] ∧ sliceRd (tySlice tyStr) (fun b => wa.heap.size ≤ b) wb (.slice A 1 c) [[⟨#[65, 65, 65]⟩, itoaS o.price]]) rfl rfl rfl Tryz.func38 (by kernel_rfl) rfl (fun w1 hw1 => (c_pair ⟨#[80, 82, 73]⟩ ⟨#[65, 65, 65]⟩ (itoaS o.price) w1 (okS_small (by decide)) (itoa_ok i6)).mono fun e w2 ⟨u, h1, h2, h3⟩ => seg_out h1 h2 h3) ?_
          intro v24 wa24 wb24 hm24 hl24 hR24
          obtain ⟨A24, c24, rfl, hs24⟩ := hR24
          refine x_end ?_
          refine t_flt (Q := fun _ _ _ => False) ?_
          refine x_callv rfl rfl rfl Tryz.func21 (by kernel_rfl) rfl (fun w1 hw1 => c_Dec o.fund w1 n2 i2) ?_
          refine x_end ?_
          refine t_gr (Q := fun _ _ _ => False) ?_ t_nil
          refine x_call (R := fun v wa wb => ∃ A c, v = .agg #[.string (⟨#[82, 70, 70]⟩), .slice A 1 c] ∧ sliceRd (tySlice tyStr) (fun b => wa.heap.size ≤ b) wb (.slice A 1 c) [[⟨#[66, 70, 78]⟩, itoaS o.fund]]) rfl rfl rfl Tryz.func38 (by kernel_rfl) rfl (fun w1 hw1 => (c_pair ⟨#[82, 70, 70]⟩ ⟨#[66, 70, 78]⟩ (itoaS o.fund) w1 (okS_small (by decide)) (itoa_ok i2)).mono fun e w2 ⟨u, h1, h2, h3⟩ => seg_out h1 h2 h3) ?_
          intro v28 wa28 wb28 hm28 hl28 hR28
          obtain ⟨A28, c28, rfl, hs28⟩ := hR28
          refine x_end ?_
          refine t_gr (Q := fun _ _ _ => False) ?_ t_nil
          refine x_call (R := fun v wa wb => ∃ A c, v = .agg #[.string (⟨#[85, 78, 84]⟩), .slice A 2 c] ∧ sliceRd (tySlice tyStr) (fun b => wa.heap.size ≤ b) wb (.slice A 2 c) [[⟨#[55]⟩], [⟨#[49]⟩]]) rfl rfl rfl Tryz.func36 (by kernel_rfl) rfl (fun w1 hw1 => (c_one (es := [⟨#[55]⟩, ⟨#[49]⟩]) (D := fun _ => True) ⟨#[85, 78, 84]⟩ w1 (lits_own (T := tyStr) (D := fun _ => True) (e := 9) (b := p29) [[Value.string (⟨#[55]⟩)], [Value.string (⟨#[49]⟩)]] (xs := [⟨#[55]⟩, ⟨#[49]⟩]) hw1 (by repeat (first | exact List.Mem.head _ | apply List.Mem.tail)) rfl (by simp) trivial ⟨⟨rfl, (okS_small (by decide))⟩, ⟨rfl, (okS_small (by decide))⟩, trivial⟩) (by simp)).mono fun e w2 ⟨u, h1, h2, h3⟩ => seg_out h1 h2 h3) ?_
          intro v30 wa30 wb30 hm30 hl30 hR30
          obtain ⟨A30, c30, rfl, hs30⟩ := hR30
          refine x_end ?_
          refine t_gr (Q := fun _ _ _ => False) ?_ t_nil
          refine x_buildSliceL (cs := ([[Value.string (⟨#[85, 78, 72]⟩), .slice A8 2 c8], [Value.string (⟨#[66, 71, 77]⟩), .slice A13 2 c13], [Value.string (⟨#[76, 73, 78]⟩), .slice A16 3 c16], [Value.string (⟨#[81, 84, 89]⟩), .slice A20 1 c20], [Value.string (⟨#[80, 82, 73]⟩), .slice A24 1 c24], [Value.string (⟨#[82, 70, 70]⟩), .slice A28 1 c28], [Value.string (⟨#[85, 78, 84]⟩), .slice A30 2 c30]] : List (List Value)).flatten) rfl rfl rfl Tryz.underlying29 sz49 zr49 rfl rfl rfl ?_
          intro p31
          refine x_end ?_
          refine t_flt (Q := fun _ _ _ => False) ?_
          refine x_val rfl rfl rfl (v_assign rfl) ?_
          refine x_end ?_
          refine t_done ?_
          refine x_end ?_
          refine t_norm ?_
          refine w_ret ?_
          refine ret1 rfl rfl (fun w' hm => ?_)
          rw [show orderR o = orderX o from by unfold orderR; rw [if_pos hw, orderP_X (wrO_nn hwr)]]
          exact ⟨_, rfl, hm.base (by simp), RdAll.rd (e := 49) (css := [[Value.string (⟨#[85, 78, 72]⟩), .slice A8 2 c8], [Value.string (⟨#[66, 71, 77]⟩), .slice A13 2 c13], [Value.string (⟨#[76, 73, 78]⟩), .slice A16 3 c16], [Value.string (⟨#[81, 84, 89]⟩), .slice A20 1 c20], [Value.string (⟨#[80, 82, 73]⟩), .slice A24 1 c24], [Value.string (⟨#[82, 70, 70]⟩), .slice A28 1 c28], [Value.string (⟨#[85, 78, 84]⟩), .slice A30 2 c30]]) (xs := orderX o) (.cons (tySeg_mk (x := ⟨⟨#[85, 78, 72]⟩, [[⟨#[49]⟩], [⟨#[79, 82, 68, 69, 82, 83]⟩, ⟨#[68]⟩, ⟨#[57, 54, 65]⟩, ⟨#[85, 78]⟩]]⟩) rfl (show (3 : Nat) ≤ 9223372036854775807 by decide) (hs8.keep (Kept.made hm (by repeat (first | exact List.Mem.head _ | apply List.Mem.tail)) hm8 (hm8.base (by simp)).size))) (.cons (tySeg_mk (x := ⟨⟨#[66, 71, 77]⟩, [[⟨#[50, 50, 48]⟩], [itoaS o.id]]⟩) rfl (show (3 : Nat) ≤ 9223372036854775807 by decide) (hs13.keep (Kept.made hm (by repeat (first | exact List.Mem.head _ | apply List.Mem.tail)) hm13 (hm13.base (by simp)).size))) (.cons (tySeg_mk (x := ⟨⟨#[76, 73, 78]⟩, [[itoaS 1], [⟨#[]⟩], [recT o.src o.num, ⟨#[83, 82, 86]⟩]]⟩) rfl (show (3 : Nat) ≤ 9223372036854775807 by decide) (hs16.keep (Kept.made hm (by repeat (first | exact List.Mem.head _ | apply List.Mem.tail)) hm16 (hm16.base (by simp)).size))) (.cons (tySeg_mk (x := ⟨⟨#[81, 84, 89]⟩, [[⟨#[50, 49]⟩, itoaS o.copies]]⟩) rfl (show (3 : Nat) ≤ 9223372036854775807 by decide) (hs20.keep (Kept.made hm (by repeat (first | exact List.Mem.head _ | apply List.Mem.tail)) hm20 (hm20.base (by simp)).size))) (.cons (tySeg_mk (x := ⟨⟨#[80, 82, 73]⟩, [[⟨#[65, 65, 65]⟩, itoaS o.price]]⟩) rfl (show (3 : Nat) ≤ 9223372036854775807 by decide) (hs24.keep (Kept.made hm (by repeat (first | exact List.Mem.head _ | apply List.Mem.tail)) hm24 (hm24.base (by simp)).size))) (.cons (tySeg_mk (x := ⟨⟨#[82, 70, 70]⟩, [[⟨#[66, 70, 78]⟩, itoaS o.fund]]⟩) rfl (show (3 : Nat) ≤ 9223372036854775807 by decide) (hs28.keep (Kept.made hm (by repeat (first | exact List.Mem.head _ | apply List.Mem.tail)) hm28 (hm28.base (by simp)).size))) (.cons (tySeg_mk (x := ⟨⟨#[85, 78, 84]⟩, [[⟨#[55]⟩], [⟨#[49]⟩]]⟩) rfl (show (3 : Nat) ≤ 9223372036854775807 by decide) (hs30.keep (Kept.made hm (by repeat (first | exact List.Mem.head _ | apply List.Mem.tail)) hm30 (hm30.base (by simp)).size))) (.nil)))))))) hm (.head _) (by repeat (first | exact List.Mem.head _ | apply List.Mem.tail)) rfl (show (7 : Nat) ≤ maxLen by decide), fun h => absurd (show (7 : Nat) = 0 from h) (by decide)⟩
        refine t_gr (Q := fun _ _ _ => False) ?_ t_nil
        refine x_buildSliceL (cs := [Value.string (⟨#[55]⟩), Value.string (⟨#[49]⟩)]) rfl rfl rfl Tryz.underlying54 sz9 zr9 rfl rfl rfl ?_
        intro p29
        refine x_end ?_
        refine t_gr (Q := fun _ _ _ => False) ?_ t_nil
        refine x_call (R := fun v wa wb => ∃ A c, v = .agg #[.string (⟨#[66, 71, 77]⟩), .slice A 2 c] ∧ sliceRd (tySlice tyStr) (fun b => wa.heap.size ≤ b) wb (.slice A 2 c) [[⟨#[50, 50, 48]⟩], [itoaS o.id]]) rfl rfl rfl Tryz.func36 (by kernel_rfl) rfl (fun w1 hw1 => (c_one (es := [⟨#[50, 50, 48]⟩, itoaS o.id]) (D := fun _ => True) ⟨#[66, 71, 77]⟩ w1 (lits_own (T := tyStr) (D := fun _ => True) (e := 9) (b := p12) [[Value.string (⟨#[50, 50, 48]⟩)], [Value.string (itoaS o.id)]] (xs := [⟨#[50, 50, 48]⟩, itoaS o.id]) hw1 (by repeat (first | exact List.Mem.head _ | apply List.Mem.tail)) rfl (by simp) trivial ⟨⟨rfl, (okS_small (by decide))⟩, ⟨rfl, itoa_ok i1⟩, trivial⟩) (by simp)).mono fun e w2 ⟨u, h1, h2, h3⟩ => seg_out h1 h2 h3) ?_
        intro v13 wa13 wb13 hm13 hl13 hR13
        obtain ⟨A13, c13, rfl, hs13⟩ := hR13
        refine x_end ?_
        refine t_gr (Q := fun _ _ _ => False) ?_ t_nil
        refine x_call (R := fun v wa wb => ∃ A c, v = .agg #[.string (⟨#[76, 73, 78]⟩), .slice A 3 c] ∧ sliceRd (tySlice tyStr) (fun b => wa.heap.size ≤ b) wb (.slice A 3 c) [[itoaS 1], [⟨#[]⟩], [recT o.src o.num, ⟨#[83, 82, 86]⟩]]) rfl rfl rfl Tryz.func37 (by kernel_rfl) rfl (fun w1 hw1 => (c_line 1 (o.src, o.num) w1 ⟨by decide, by unfold in64; decide⟩ ⟨n3, i3⟩ ⟨n4, i4⟩).mono fun e w2 ⟨u, h1, h2, h3⟩ => seg_out h1 h2 h3) ?_
        intro v16 wa16 wb16 hm16 hl16 hR16
        obtain ⟨A16, c16, rfl, hs16⟩ := hR16
        refine x_end ?_
        refine t_flt (Q := fun _ _ _ => False) ?_
        refine x_callv rfl rfl rfl Tryz.func21 (by kernel_rfl) rfl (fun w1 hw1 => c_Dec o.copies w1 n5 i5) ?_
        refine x_end ?_
        refine t_gr (Q := fun _ _ _ => False) ?_ t_nil
        refine x_call (R := fun v wa wb => ∃ A c, v = .agg #[.string (⟨#[81, 84, 89]⟩), .slice A 1 c] ∧ sliceRd (tySlice tyStr) (fun b => wa.heap.size ≤ b) wb (.slice A 1 c) [[⟨#[50, 49]⟩, itoaS o.copies]]) rfl rfl rfl Tryz.func38 (by kernel_rfl) rfl (fun w1 hw1 => (c_pair ⟨#[81, 84, 89]⟩ ⟨#[50, 49]⟩ (itoaS o.copies) w1 (okS_small (by decide)) (itoa_ok i5)).mono fun e w2 ⟨u, h1, h2, h3⟩ => seg_out h1 h2 h3) ?_
        intro v20 wa20 wb20 hm20 hl20 hR20
        obtain ⟨A20, c20, rfl, hs20⟩ := hR20
        refine x_end ?_
        refine t_flt (Q := fun _ _ _ => False) ?_
        refine x_callv rfl rfl rfl Tryz.func21 (by kernel_rfl) rfl (fun w1 hw1 => c_Dec o.price w1 n6 i6) ?_
        refine x_end ?_
        refine t_gr (Q := fun _ _ _ => False) ?_ t_nil
        refine x_call (R := fun v wa wb => ∃ A c, v = .agg #[.string (⟨#[80, 82, 73]⟩), .slice A 1 c] ∧ sliceRd (tySlice tyStr) (fun b => wa.heap.size ≤ b) wb (.slice A 1 c) [[⟨#[65, 65, 65]⟩, itoaS o.price]]) rfl rfl rfl Tryz.func38 (by kernel_rfl) rfl (fun w1 hw1 => (c_pair ⟨#[80, 82, 73]⟩ ⟨#[65, 65, 65]⟩ (itoaS o.price) w1 (okS_small (by decide)) (itoa_ok i6)).mono fun e w2 ⟨u, h1, h2, h3⟩ => seg_out h1 h2 h3) ?_
        intro v24 wa24 wb24 hm24 hl24 hR24
        obtain ⟨A24, c24, rfl, hs24⟩ := hR24
        refine x_end ?_
        refine t_flt (Q := fun _ _ _ => False) ?_
        refine x_callv rfl rfl rfl Tryz.func21 (by kernel_rfl) rfl (fun w1 hw1 => c_Dec o.fund w1 n2 i2) ?_
        refine x_end ?_
        refine t_gr (Q := fun _ _ _ => False) ?_ t_nil
        refine x_call (R := fun v wa wb => ∃ A c, v = .agg #[.string (⟨#[82, 70, 70]⟩), .slice A 1 c] ∧ sliceRd (tySlice tyStr) (fun b => wa.heap.size ≤ b) wb (.slice A 1 c) [[⟨#[66, 70, 78]⟩, itoaS o.fund]]) rfl rfl rfl Tryz.func38 (by kernel_rfl) rfl (fun w1 hw1 => (c_pair ⟨#[82, 70, 70]⟩ ⟨#[66, 70, 78]⟩ (itoaS o.fund) w1 (okS_small (by decide)) (itoa_ok i2)).mono fun e w2 ⟨u, h1, h2, h3⟩ => seg_out h1 h2 h3) ?_
        intro v28 wa28 wb28 hm28 hl28 hR28
        obtain ⟨A28, c28, rfl, hs28⟩ := hR28
        refine x_end ?_
        refine t_gr (Q := fun _ _ _ => False) ?_ t_nil
        refine x_call (R := fun v wa wb => ∃ A c, v = .agg #[.string (⟨#[85, 78, 84]⟩), .slice A 2 c] ∧ sliceRd (tySlice tyStr) (fun b => wa.heap.size ≤ b) wb (.slice A 2 c) [[⟨#[55]⟩], [⟨#[49]⟩]]) rfl rfl rfl Tryz.func36 (by kernel_rfl) rfl (fun w1 hw1 => (c_one (es := [⟨#[55]⟩, ⟨#[49]⟩]) (D := fun _ => True) ⟨#[85, 78, 84]⟩ w1 (lits_own (T := tyStr) (D := fun _ => True) (e := 9) (b := p29) [[Value.string (⟨#[55]⟩)], [Value.string (⟨#[49]⟩)]] (xs := [⟨#[55]⟩, ⟨#[49]⟩]) hw1 (by repeat (first | exact List.Mem.head _ | apply List.Mem.tail)) rfl (by simp) trivial ⟨⟨rfl, (okS_small (by decide))⟩, ⟨rfl, (okS_small (by decide))⟩, trivial⟩) (by simp)).mono fun e w2 ⟨u, h1, h2, h3⟩ => seg_out h1 h2 h3) ?_
        intro v30 wa30 wb30 hm30 hl30 hR30
        obtain ⟨A30, c30, rfl, hs30⟩ := hR30
        refine x_end ?_
        refine t_gr (Q := fun _ _ _ => False) ?_ t_nil
        refine x_buildSliceL (cs := ([[Value.string (⟨#[85, 78, 72]⟩), .slice A8 2 c8], [Value.string (⟨#[66, 71, 77]⟩), .slice A13 2 c13], [Value.string (⟨#[76, 73, 78]⟩), .slice A16 3 c16], [Value.string (⟨#[81, 84, 89]⟩), .slice A20 1 c20], [Value.string (⟨#[80, 82, 73]⟩), .slice A24 1 c24], [Value.string (⟨#[82, 70, 70]⟩), .slice A28 1 c28], [Value.string (⟨#[85, 78, 84]⟩), .slice A30 2 c30]] : List (List Value)).flatten) rfl rfl rfl Tryz.underlying29 sz49 zr49 rfl rfl rfl ?_
        intro p31
        refine x_end ?_
        refine t_flt (Q := fun _ _ _ => False) ?_
        refine x_val rfl rfl rfl (v_assign rfl) ?_
        refine x_end ?_
        refine t_done ?_
        refine x_end ?_
        refine t_norm ?_
        refine w_ret ?_
        refine ret1 rfl rfl (fun w' hm => ?_)
        rw [show orderR o = orderX o from by unfold orderR; rw [if_pos hw, orderP_X (wrO_nn hwr)]]
        exact ⟨_, rfl, hm.base (by simp), RdAll.rd (e := 49) (css := [[Value.string (⟨#[85, 78, 72]⟩), .slice A8 2 c8], [Value.string (⟨#[66, 71, 77]⟩), .slice A13 2 c13], [Value.string (⟨#[76, 73, 78]⟩), .slice A16 3 c16], [Value.string (⟨#[81, 84, 89]⟩), .slice A20 1 c20], [Value.string (⟨#[80, 82, 73]⟩), .slice A24 1 c24], [Value.string (⟨#[82, 70, 70]⟩), .slice A28 1 c28], [Value.string (⟨#[85, 78, 84]⟩), .slice A30 2 c30]]) (xs := orderX o) (.cons (tySeg_mk (x := ⟨⟨#[85, 78, 72]⟩, [[⟨#[49]⟩], [⟨#[79, 82, 68, 69, 82, 83]⟩, ⟨#[68]⟩, ⟨#[57, 54, 65]⟩, ⟨#[85, 78]⟩]]⟩) rfl (show (3 : Nat) ≤ 9223372036854775807 by decide) (hs8.keep (Kept.made hm (by repeat (first | exact List.Mem.head _ | apply List.Mem.tail)) hm8 (hm8.base (by simp)).size))) (.cons (tySeg_mk (x := ⟨⟨#[66, 71, 77]⟩, [[⟨#[50, 50, 48]⟩], [itoaS o.id]]⟩) rfl (show (3 : Nat) ≤ 9223372036854775807 by decide) (hs13.keep (Kept.made hm (by repeat (first | exact List.Mem.head _ | apply List.Mem.tail)) hm13 (hm13.base (by simp)).size))) (.cons (tySeg_mk (x := ⟨⟨#[76, 73, 78]⟩, [[itoaS 1], [⟨#[]⟩], [recT o.src o.num, ⟨#[83, 82, 86]⟩]]⟩) rfl (show (3 : Nat) ≤ 9223372036854775807 by decide) (hs16.keep (Kept.made hm (by repeat (first | exact List.Mem.head _ | apply List.Mem.tail)) hm16 (hm16.base (by simp)).size))) (.cons (tySeg_mk (x := ⟨⟨#[81, 84, 89]⟩, [[⟨#[50, 49]⟩, itoaS o.copies]]⟩) rfl (show (3 : Nat) ≤ 9223372036854775807 by decide) (hs20.keep (Kept.made hm (by repeat (first | exact List.Mem.head _ | apply List.Mem.tail)) hm20 (hm20.base (by simp)).size))) (.cons (tySeg_mk (x := ⟨⟨#[80, 82, 73]⟩, [[⟨#[65, 65, 65]⟩, itoaS o.price]]⟩) rfl (show (3 : Nat) ≤ 9223372036854775807 by decide) (hs24.keep (Kept.made hm (by repeat (first | exact List.Mem.head _ | apply List.Mem.tail)) hm24 (hm24.base (by simp)).size))) (.cons (tySeg_mk (x := ⟨⟨#[82, 70, 70]⟩, [[⟨#[66, 70, 78]⟩, itoaS o.fund]]⟩) rfl (show (3 : Nat) ≤ 9223372036854775807 by decide) (hs28.keep (Kept.made hm (by repeat (first | exact List.Mem.head _ | apply List.Mem.tail)) hm28 (hm28.base (by simp)).size))) (.cons (tySeg_mk (x := ⟨⟨#[85, 78, 84]⟩, [[⟨#[55]⟩], [⟨#[49]⟩]]⟩) rfl (show (3 : Nat) ≤ 9223372036854775807 by decide) (hs30.keep (Kept.made hm (by repeat (first | exact List.Mem.head _ | apply List.Mem.tail)) hm30 (hm30.base (by simp)).size))) (.nil)))))))) hm (.head _) (by repeat (first | exact List.Mem.head _ | apply List.Mem.tail)) rfl (show (7 : Nat) ≤ maxLen by decide), fun h => absurd (show (7 : Nat) = 0 from h) (by decide)⟩
      refine t_gr (Q := fun _ _ _ => False) ?_ t_nil
      refine x_buildSliceL (cs := [Value.string (⟨#[55]⟩), Value.string (⟨#[49]⟩)]) rfl rfl rfl Tryz.underlying54 sz9 zr9 rfl rfl rfl ?_
      intro p29
      refine x_end ?_
      refine t_gr (Q := fun _ _ _ => False) ?_ t_nil
      refine x_buildSliceL (cs := [Value.string (⟨#[50, 50, 48]⟩), Value.string (itoaS o.id)]) rfl rfl rfl Tryz.underlying54 sz9 zr9 rfl rfl rfl ?_
      intro p12
      refine x_end ?_
      refine t_gr (Q := fun _ _ _ => False) ?_ t_nil
      refine x_call (R := fun v wa wb => ∃ A c, v = .agg #[.string (⟨#[66, 71, 77]⟩), .slice A 2 c] ∧ sliceRd (tySlice tyStr) (fun b => wa.heap.size ≤ b) wb (.slice A 2 c) [[⟨#[50, 50, 48]⟩], [itoaS o.id]]) rfl rfl rfl Tryz.func36 (by kernel_rfl) rfl (fun w1 hw1 => (c_one (es := [⟨#[50, 50, 48]⟩, itoaS o.id]) (D := fun _ => True) ⟨#[66, 71, 77]⟩ w1 (lits_own (T := tyStr) (D := fun _ => True) (e := 9) (b := p12) [[Value.string (⟨#[50, 50, 48]⟩)], [Value.string (itoaS o.id)]] (xs := [⟨#[50, 50, 48]⟩, itoaS o.id]) hw1 (by repeat (first | exact List.Mem.head _ | apply List.Mem.tail)) rfl (by simp) trivial ⟨⟨rfl, (okS_small (by decide))⟩, ⟨rfl, itoa_ok i1⟩, trivial⟩) (by simp)).mono fun e w2 ⟨u, h1, h2, h3⟩ => seg_out h1 h2 h3) ?_
      intro v13 wa13 wb13 hm13 hl13 hR13
      obtain ⟨A13, c13, rfl, hs13⟩ := hR13
      refine x_end ?_
      refine t_gr (Q := fun _ _ _ => False) ?_ t_nil
      refine x_call (R := fun v wa wb => ∃ A c, v = .agg #[.string (⟨#[76, 73, 78]⟩), .slice A 3 c] ∧ sliceRd (tySlice tyStr) (fun b => wa.heap.size ≤ b) wb (.slice A 3 c) [[itoaS 1], [⟨#[]⟩], [recT o.src o.num, ⟨#[83, 82, 86]⟩]]) rfl rfl rfl Tryz.func37 (by kernel_rfl) rfl (fun w1 hw1 => (c_line 1 (o.src, o.num) w1 ⟨by decide, by unfold in64; decide⟩ ⟨n3, i3⟩ ⟨n4, i4⟩).mono fun e w2 ⟨u, h1, h2, h3⟩ => seg_out h1 h2 h3) ?_
      intro v16 wa16 wb16 hm16 hl16 hR16
      obtain ⟨A16, c16, rfl, hs16⟩ := hR16
      refine x_end ?_
      refine t_flt (Q := fun _ _ _ => False) ?_
      refine x_callv rfl rfl rfl Tryz.func21 (by kernel_rfl) rfl (fun w1 hw1 => c_Dec o.copies w1 n5 i5) ?_
      refine x_end ?_
      refine t_gr (Q := fun _ _ _ => False) ?_ t_nil
      refine x_call (R := fun v wa wb => ∃ A c, v = .agg #[.string (⟨#[81, 84, 89]⟩), .slice A 1 c] ∧ sliceRd (tySlice tyStr) (fun b => wa.heap.size ≤ b) wb (.slice A 1 c) [[⟨#[50, 49]⟩, itoaS o.copies]]) rfl rfl rfl Tryz.func38 (by kernel_rfl) rfl (fun w1 hw1 => (c_pair ⟨#[81, 84, 89]⟩ ⟨#[50, 49]⟩ (itoaS o.copies) w1 (okS_small (by decide)) (itoa_ok i5)).mono fun e w2 ⟨u, h1, h2, h3⟩ => seg_out h1 h2 h3) ?_
      intro v20 wa20 wb20 hm20 hl20 hR20
      obtain ⟨A20, c20, rfl, hs20⟩ := hR20
      refine x_end ?_
      refine t_flt (Q := fun _ _ _ => False) ?_
      refine x_callv rfl rfl rfl Tryz.func21 (by kernel_rfl) rfl (fun w1 hw1 => c_Dec o.price w1 n6 i6) ?_
      refine x_end ?_
      refine t_gr (Q := fun _ _ _ => False) ?_ t_nil
      refine x_call (R := fun v wa wb => ∃ A c, v = .agg #[.string (⟨#[80, 82, 73]⟩), .slice A 1 c] ∧ sliceRd (tySlice tyStr) (fun b => wa.heap.size ≤ b) wb (.slice A 1 c) [[⟨#[65, 65, 65]⟩, itoaS o.price]]) rfl rfl rfl Tryz.func38 (by kernel_rfl) rfl (fun w1 hw1 => (c_pair ⟨#[80, 82, 73]⟩ ⟨#[65, 65, 65]⟩ (itoaS o.price) w1 (okS_small (by decide)) (itoa_ok i6)).mono fun e w2 ⟨u, h1, h2, h3⟩ => seg_out h1 h2 h3) ?_
      intro v24 wa24 wb24 hm24 hl24 hR24
      obtain ⟨A24, c24, rfl, hs24⟩ := hR24
      refine x_end ?_
      refine t_flt (Q := fun _ _ _ => False) ?_
      refine x_callv rfl rfl rfl Tryz.func21 (by kernel_rfl) rfl (fun w1 hw1 => c_Dec o.fund w1 n2 i2) ?_
      refine x_end ?_
      refine t_gr (Q := fun _ _ _ => False) ?_ t_nil
      refine x_call (R := fun v wa wb => ∃ A c, v = .agg #[.string (⟨#[82, 70, 70]⟩), .slice A 1 c] ∧ sliceRd (tySlice tyStr) (fun b => wa.heap.size ≤ b) wb (.slice A 1 c) [[⟨#[66, 70, 78]⟩, itoaS o.fund]]) rfl rfl rfl Tryz.func38 (by kernel_rfl) rfl (fun w1 hw1 => (c_pair ⟨#[82, 70, 70]⟩ ⟨#[66, 70, 78]⟩ (itoaS o.fund) w1 (okS_small (by decide)) (itoa_ok i2)).mono fun e w2 ⟨u, h1, h2, h3⟩ => seg_out h1 h2 h3) ?_
      intro v28 wa28 wb28 hm28 hl28 hR28
      obtain ⟨A28, c28, rfl, hs28⟩ := hR28
      refine x_end ?_
      refine t_gr (Q := fun _ _ _ => False) ?_ t_nil
      refine x_call (R := fun v wa wb => ∃ A c, v = .agg #[.string (⟨#[85, 78, 84]⟩), .slice A 2 c] ∧ sliceRd (tySlice tyStr) (fun b => wa.heap.size ≤ b) wb (.slice A 2 c) [[⟨#[55]⟩], [⟨#[49]⟩]]) rfl rfl rfl Tryz.func36 (by kernel_rfl) rfl (fun w1 hw1 => (c_one (es := [⟨#[55]⟩, ⟨#[49]⟩]) (D := fun _ => True) ⟨#[85, 78, 84]⟩ w1 (lits_own (T := tyStr) (D := fun _ => True) (e := 9) (b := p29) [[Value.string (⟨#[55]⟩)], [Value.string (⟨#[49]⟩)]] (xs := [⟨#[55]⟩, ⟨#[49]⟩]) hw1 (by repeat (first | exact List.Mem.head _ | apply List.Mem.tail)) rfl (by simp) trivial ⟨⟨rfl, (okS_small (by decide))⟩, ⟨rfl, (okS_small (by decide))⟩, trivial⟩) (by simp)).mono fun e w2 ⟨u, h1, h2, h3⟩ => seg_out h1 h2 h3) ?_
      intro v30 wa30 wb30 hm30 hl30 hR30
      obtain ⟨A30, c30, rfl, hs30⟩ := hR30
      refine x_end ?_
      refine t_gr (Q := fun _ _ _ => False) ?_ t_nil
      refine x_buildSliceL (cs := ([[Value.string (⟨#[85, 78, 72]⟩), .slice A8 2 c8], [Value.string (⟨#[66, 71, 77]⟩), .slice A13 2 c13], [Value.string (⟨#[76, 73, 78]⟩), .slice A16 3 c16], [Value.string (⟨#[81, 84, 89]⟩), .slice A20 1 c20], [Value.string (⟨#[80, 82, 73]⟩), .slice A24 1 c24], [Value.string (⟨#[82, 70, 70]⟩), .slice A28 1 c28], [Value.string (⟨#[85, 78, 84]⟩), .slice A30 2 c30]] : List (List Value)).flatten) rfl rfl rfl Tryz.underlying29 sz49 zr49 rfl rfl rfl ?_
      intro p31
      refine x_end ?_
      refine t_flt (Q := fun _ _ _ => False) ?_
      refine x_val rfl rfl rfl (v_assign rfl) ?_
      refine x_end ?_
      refine t_done ?_
      refine x_end ?_
      refine t_norm ?_
      refine w_ret ?_
      refine ret1 rfl rfl (fun w' hm => ?_)
      rw [show orderR o = orderX o from by unfold orderR; rw [if_pos hw, orderP_X (wrO_nn hwr)]]
      exact ⟨_, rfl, hm.base (by simp), RdAll.rd (e := 49) (css := [[Value.string (⟨#[85, 78, 72]⟩), .slice A8 2 c8], [Value.string (⟨#[66, 71, 77]⟩), .slice A13 2 c13], [Value.string (⟨#[76, 73, 78]⟩), .slice A16 3 c16], [Value.string (⟨#[81, 84, 89]⟩), .slice A20 1 c20], [Value.string (⟨#[80, 82, 73]⟩), .slice A24 1 c24], [Value.string (⟨#[82, 70, 70]⟩), .slice A28 1 c28], [Value.string (⟨#[85, 78, 84]⟩), .slice A30 2 c30]]) (xs := orderX o) (.cons (tySeg_mk (x := ⟨⟨#[85, 78, 72]⟩, [[⟨#[49]⟩], [⟨#[79, 82, 68, 69, 82, 83]⟩, ⟨#[68]⟩, ⟨#[57, 54, 65]⟩, ⟨#[85, 78]⟩]]⟩) rfl (show (3 : Nat) ≤ 9223372036854775807 by decide) (hs8.keep (Kept.made hm (by repeat (first | exact List.Mem.head _ | apply List.Mem.tail)) hm8 (hm8.base (by simp)).size))) (.cons (tySeg_mk (x := ⟨⟨#[66, 71, 77]⟩, [[⟨#[50, 50, 48]⟩], [itoaS o.id]]⟩) rfl (show (3 : Nat) ≤ 9223372036854775807 by decide) (hs13.keep (Kept.made hm (by repeat (first | exact List.Mem.head _ | apply List.Mem.tail)) hm13 (hm13.base (by simp)).size))) (.cons (tySeg_mk (x := ⟨⟨#[76, 73, 78]⟩, [[itoaS 1], [⟨#[]⟩], [recT o.src o.num, ⟨#[83, 82, 86]⟩]]⟩) rfl (show (3 : Nat) ≤ 9223372036854775807 by decide) (hs16.keep (Kept.made hm (by repeat (first | exact List.Mem.head _ | apply List.Mem.tail)) hm16 (hm16.base (by simp)).size))) (.cons (tySeg_mk (x := ⟨⟨#[81, 84, 89]⟩, [[⟨#[50, 49]⟩, itoaS o.copies]]⟩) rfl (show (3 : Nat) ≤ 9223372036854775807 by decide) (hs20.keep (Kept.made hm (by repeat (first | exact List.Mem.head _ | apply List.Mem.tail)) hm20 (hm20.base (by simp)).size))) (.cons (tySeg_mk (x := ⟨⟨#[80, 82, 73]⟩, [[⟨#[65, 65, 65]⟩, itoaS o.price]]⟩) rfl (show (3 : Nat) ≤ 9223372036854775807 by decide) (hs24.keep (Kept.made hm (by repeat (first | exact List.Mem.head _ | apply List.Mem.tail)) hm24 (hm24.base (by simp)).size))) (.cons (tySeg_mk (x := ⟨⟨#[82, 70, 70]⟩, [[⟨#[66, 70, 78]⟩, itoaS o.fund]]⟩) rfl (show (3 : Nat) ≤ 9223372036854775807 by decide) (hs28.keep (Kept.made hm (by repeat (first | exact List.Mem.head _ | apply List.Mem.tail)) hm28 (hm28.base (by simp)).size))) (.cons (tySeg_mk (x := ⟨⟨#[85, 78, 84]⟩, [[⟨#[55]⟩], [⟨#[49]⟩]]⟩) rfl (show (3 : Nat) ≤ 9223372036854775807 by decide) (hs30.keep (Kept.made hm (by repeat (first | exact List.Mem.head _ | apply List.Mem.tail)) hm30 (hm30.base (by simp)).size))) (.nil)))))))) hm (.head _) (by repeat (first | exact List.Mem.head _ | apply List.Mem.tail)) rfl (show (7 : Nat) ≤ maxLen by decide), fun h => absurd (show (7 : Nat) = 0 from h) (by decide)⟩
    refine t_gr (Q := fun _ _ _ => False) ?_ t_nil
    refine x_buildSliceL (cs := [Value.string (⟨#[55]⟩), Value.string (⟨#[49]⟩)]) rfl rfl rfl Tryz.underlying54 sz9 zr9 rfl rfl rfl ?_
    intro p29
    refine x_end ?_
    refine t_gr (Q := fun _ _ _ => False) ?_ t_nil
    refine x_call (R := fun v wa wb => ∃ A c, v = .agg #[.string (⟨#[85, 78, 72]⟩), .slice A 2 c] ∧ sliceRd (tySlice tyStr) (fun b => wa.heap.size ≤ b) wb (.slice A 2 c) [[⟨#[49]⟩], [⟨#[79, 82, 68, 69, 82, 83]⟩, ⟨#[68]⟩, ⟨#[57, 54, 65]⟩, ⟨#[85, 78]⟩]]) rfl rfl rfl Tryz.func35 (by kernel_rfl) rfl (fun w1 hw1 => (c_header ⟨#[79, 82, 68, 69, 82, 83]⟩ w1 (okS_small (by decide))).mono fun e w2 ⟨u, h1, h2, h3⟩ => seg_out h1 h2 h3) ?_
    intro v8 wa8 wb8 hm8 hl8 hR8
    obtain ⟨A8, c8, rfl, hs8⟩ := hR8
    refine x_end ?_
    refine t_flt (Q := fun _ _ _ => False) ?_
    refine x_callv rfl rfl rfl Tryz.func21 (by kernel_rfl) rfl (fun w1 hw1 => c_Dec o.id w1 n1 i1) ?_
    refine x_end ?_
    refine t_gr (Q := fun _ _ _ => False) ?_ t_nil
    refine x_buildSliceL (cs := [Value.string (⟨#[50, 50, 48]⟩), Value.string (itoaS o.id)]) rfl rfl rfl Tryz.underlying54 sz9 zr9 rfl rfl rfl ?_
    intro p12
    refine x_end ?_
    refine t_gr (Q := fun _ _ _ => False) ?_ t_nil
    refine x_call (R := fun v wa wb => ∃ A c, v = .agg #[.string (⟨#[66, 71, 77]⟩), .slice A 2 c] ∧ sliceRd (tySlice tyStr) (fun b => wa.heap.size ≤ b) wb (.slice A 2 c) [[⟨#[50, 50, 48]⟩], [itoaS o.id]]) rfl rfl rfl Tryz.func36 (by kernel_rfl) rfl (fun w1 hw1 => (c_one (es := [⟨#[50, 50, 48]⟩, itoaS o.id]) (D := fun _ => True) ⟨#[66, 71, 77]⟩ w1 (lits_own (T := tyStr) (D := fun _ => True) (e := 9) (b := p12) [[Value.string (⟨#[50, 50, 48]⟩)], [Value.string (itoaS o.id)]] (xs := [⟨#[50, 50, 48]⟩, itoaS o.id]) hw1 (by repeat (first | exact List.Mem.head _ | apply List.Mem.tail)) rfl (by simp) trivial ⟨⟨rfl, (okS_small (by decide))⟩, ⟨rfl, itoa_ok i1⟩, trivial⟩) (by simp)).mono fun e w2 ⟨u, h1, h2, h3⟩ => seg_out h1 h2 h3) ?_
    intro v13 wa13 wb13 hm13 hl13 hR13
    obtain ⟨A13, c13, rfl, hs13⟩ := hR13
    refine x_end ?_
    refine t_gr (Q := fun _ _ _ => False) ?_ t_nil
    refine x_call (R := fun v wa wb => ∃ A c, v = .agg #[.string (⟨#[76, 73, 78]⟩), .slice A 3 c] ∧ sliceRd (tySlice tyStr) (fun b => wa.heap.size ≤ b) wb (.slice A 3 c) [[itoaS 1], [⟨#[]⟩], [recT o.src o.num, ⟨#[83, 82, 86]⟩]]) rfl rfl rfl Tryz.func37 (by kernel_rfl) rfl (fun w1 hw1 => (c_line 1 (o.src, o.num) w1 ⟨by decide, by unfold in64; decide⟩ ⟨n3, i3⟩ ⟨n4, i4⟩).mono fun e w2 ⟨u, h1, h2, h3⟩ => seg_out h1 h2 h3) ?_
    intro v16 wa16 wb16 hm16 hl16 hR16
    obtain ⟨A16, c16, rfl, hs16⟩ := hR16
    refine x_end ?_
    refine t_flt (Q := fun _ _ _ => False) ?_
    refine x_callv rfl rfl rfl Tryz.func21 (by kernel_rfl) rfl (fun w1 hw1 => c_Dec o.copies w1 n5 i5) ?_
    refine x_end ?_
    refine t_gr (Q := fun _ _ _ => False) ?_ t_nil
    refine x_call (R := fun v wa wb => ∃ A c, v = .agg #[.string (⟨#[81, 84, 89]⟩), .slice A 1 c] ∧ sliceRd (tySlice tyStr) (fun b => wa.heap.size ≤ b) wb (.slice A 1 c) [[⟨#[50, 49]⟩, itoaS o.copies]]) rfl rfl rfl Tryz.func38 (by kernel_rfl) rfl (fun w1 hw1 => (c_pair ⟨#[81, 84, 89]⟩ ⟨#[50, 49]⟩ (itoaS o.copies) w1 (okS_small (by decide)) (itoa_ok i5)).mono fun e w2 ⟨u, h1, h2, h3⟩ => seg_out h1 h2 h3) ?_
    intro v20 wa20 wb20 hm20 hl20 hR20
    obtain ⟨A20, c20, rfl, hs20⟩ := hR20
    refine x_end ?_
    refine t_flt (Q := fun _ _ _ => False) ?_
    refine x_callv rfl rfl rfl Tryz.func21 (by kernel_rfl) rfl (fun w1 hw1 => c_Dec o.price w1 n6 i6) ?_
    refine x_end ?_
    refine t_gr (Q := fun _ _ _ => False) ?_ t_nil
    refine x_call (R := fun v wa wb => ∃ A c, v = .agg #[.string (⟨#[80, 82, 73]⟩), .slice A 1 c] ∧ sliceRd (tySlice tyStr) (fun b => wa.heap.size ≤ b) wb (.slice A 1 c) [[⟨#[65, 65, 65]⟩, itoaS o.price]]) rfl rfl rfl Tryz.func38 (by kernel_rfl) rfl (fun w1 hw1 => (c_pair ⟨#[80, 82, 73]⟩ ⟨#[65, 65, 65]⟩ (itoaS o.price) w1 (okS_small (by decide)) (itoa_ok i6)).mono fun e w2 ⟨u, h1, h2, h3⟩ => seg_out h1 h2 h3) ?_
    intro v24 wa24 wb24 hm24 hl24 hR24
    obtain ⟨A24, c24, rfl, hs24⟩ := hR24
    refine x_end ?_
    refine t_flt (Q := fun _ _ _ => False) ?_
    refine x_callv rfl rfl rfl Tryz.func21 (by kernel_rfl) rfl (fun w1 hw1 => c_Dec o.fund w1 n2 i2) ?_
    refine x_end ?_
    refine t_gr (Q := fun _ _ _ => False) ?_ t_nil
    refine x_call (R := fun v wa wb => ∃ A c, v = .agg #[.string (⟨#[82, 70, 70]⟩), .slice A 1 c] ∧ sliceRd (tySlice tyStr) (fun b => wa.heap.size ≤ b) wb (.slice A 1 c) [[⟨#[66, 70, 78]⟩, itoaS o.fund]]) rfl rfl rfl Tryz.func38 (by kernel_rfl) rfl (fun w1 hw1 => (c_pair ⟨#[82, 70, 70]⟩ ⟨#[66, 70, 78]⟩ (itoaS o.fund) w1 (okS_small (by decide)) (itoa_ok i2)).mono fun e w2 ⟨u, h1, h2, h3⟩ => seg_out h1 h2 h3) ?_
    intro v28 wa28 wb28 hm28 hl28 hR28
    obtain ⟨A28, c28, rfl, hs28⟩ := hR28
    refine x_end ?_
    refine t_gr (Q := fun _ _ _ => False) ?_ t_nil
    refine x_call (R := fun v wa wb => ∃ A c, v = .agg #[.string (⟨#[85, 78, 84]⟩), .slice A 2 c] ∧ sliceRd (tySlice tyStr) (fun b => wa.heap.size ≤ b) wb (.slice A 2 c) [[⟨#[55]⟩], [⟨#[49]⟩]]) rfl rfl rfl Tryz.func36 (by kernel_rfl) rfl (fun w1 hw1 => (c_one (es := [⟨#[55]⟩, ⟨#[49]⟩]) (D := fun _ => True) ⟨#[85, 78, 84]⟩ w1 (lits_own (T := tyStr) (D := fun _ => True) (e := 9) (b := p29) [[Value.string (⟨#[55]⟩)], [Value.string (⟨#[49]⟩)]] (xs := [⟨#[55]⟩, ⟨#[49]⟩]) hw1 (by repeat (first | exact List.Mem.head _ | apply List.Mem.tail)) rfl (by simp) trivial ⟨⟨rfl, (okS_small (by decide))⟩, ⟨rfl, (okS_small (by decide))⟩, trivial⟩) (by simp)).mono fun e w2 ⟨u, h1, h2, h3⟩ => seg_out h1 h2 h3) ?_
    intro v30 wa30 wb30 hm30 hl30 hR30
    obtain ⟨A30, c30, rfl, hs30⟩ := hR30
    refine x_end ?_
    refine t_gr (Q := fun _ _ _ => False) ?_ t_nil
    refine x_buildSliceL (cs := ([[Value.string (⟨#[85, 78, 72]⟩), .slice A8 2 c8], [Value.string (⟨#[66, 71, 77]⟩), .slice A13 2 c13], [Value.string (⟨#[76, 73, 78]⟩), .slice A16 3 c16], [Value.string (⟨#[81, 84, 89]⟩), .slice A20 1 c20], [Value.string (⟨#[80, 82, 73]⟩), .slice A24 1 c24], [Value.string (⟨#[82, 70, 70]⟩), .slice A28 1 c28], [Value.string (⟨#[85, 78, 84]⟩), .slice A30 2 c30]] : List (List Value)).flatten) rfl rfl rfl Tryz.underlying29 sz49 zr49 rfl rfl rfl ?_
    intro p31
    refine x_end ?_
    refine t_flt (Q := fun _ _ _ => False) ?_
    refine x_val rfl rfl rfl (v_assign rfl) ?_
    refine x_end ?_
    refine t_done ?_
    refine x_end ?_
    refine t_norm ?_
    refine w_ret ?_
    refine ret1 rfl rfl (fun w' hm => ?_)
    rw [show orderR o = orderX o from by unfold orderR; rw [if_pos hw, orderP_X (wrO_nn hwr)]]
    exact ⟨_, rfl, hm.base (by simp), RdAll.rd (e := 49) (css := [[Value.string (⟨#[85, 78, 72]⟩), .slice A8 2 c8], [Value.string (⟨#[66, 71, 77]⟩), .slice A13 2 c13], [Value.string (⟨#[76, 73, 78]⟩), .slice A16 3 c16], [Value.string (⟨#[81, 84, 89]⟩), .slice A20 1 c20], [Value.string (⟨#[80, 82, 73]⟩), .slice A24 1 c24], [Value.string (⟨#[82, 70, 70]⟩), .slice A28 1 c28], [Value.string (⟨#[85, 78, 84]⟩), .slice A30 2 c30]]) (xs := orderX o) (.cons (tySeg_mk (x := ⟨⟨#[85, 78, 72]⟩, [[⟨#[49]⟩], [⟨#[79, 82, 68, 69, 82, 83]⟩, ⟨#[68]⟩, ⟨#[57, 54, 65]⟩, ⟨#[85, 78]⟩]]⟩) rfl (show (3 : Nat) ≤ 9223372036854775807 by decide) (hs8.keep (Kept.made hm (by repeat (first | exact List.Mem.head _ | apply List.Mem.tail)) hm8 (hm8.base (by simp)).size))) (.cons (tySeg_mk (x := ⟨⟨#[66, 71, 77]⟩, [[⟨#[50, 50, 48]⟩], [itoaS o.id]]⟩) rfl (show (3 : Nat) ≤ 9223372036854775807 by decide) (hs13.keep (Kept.made hm (by repeat (first | exact List.Mem.head _ | apply List.Mem.tail)) hm13 (hm13.base (by simp)).size))) (.cons (tySeg_mk (x := ⟨⟨#[76, 73, 78]⟩, [[itoaS 1], [⟨#[]⟩], [recT o.src o.num, ⟨#[83, 82, 86]⟩]]⟩) rfl (show (3 : Nat) ≤ 9223372036854775807 by decide) (hs16.keep (Kept.made hm (by repeat (first | exact List.Mem.head _ | apply List.Mem.tail)) hm16 (hm16.base (by simp)).size))) (.cons (tySeg_mk (x := ⟨⟨#[81, 84, 89]⟩, [[⟨#[50, 49]⟩, itoaS o.copies]]⟩) rfl (show (3 : Nat) ≤ 9223372036854775807 by decide) (hs20.keep (Kept.made hm (by repeat (first | exact List.Mem.head _ | apply List.Mem.tail)) hm20 (hm20.base (by simp)).size))) (.cons (tySeg_mk (x := ⟨⟨#[80, 82, 73]⟩, [[⟨#[65, 65, 65]⟩, itoaS o.price]]⟩) rfl (show (3 : Nat) ≤ 9223372036854775807 by decide) (hs24.keep (Kept.made hm (by repeat (first | exact List.Mem.head _ | apply List.Mem.tail)) hm24 (hm24.base (by simp)).size))) (.cons (tySeg_mk (x := ⟨⟨#[82, 70, 70]⟩, [[⟨#[66, 70, 78]⟩, itoaS o.fund]]⟩) rfl (show (3 : Nat) ≤ 9223372036854775807 by decide) (hs28.keep (Kept.made hm (by repeat (first | exact List.Mem.head _ | apply List.Mem.tail)) hm28 (hm28.base (by simp)).size))) (.cons (tySeg_mk (x := ⟨⟨#[85, 78, 84]⟩, [[⟨#[55]⟩], [⟨#[49]⟩]]⟩) rfl (show (3 : Nat) ≤ 9223372036854775807 by decide) (hs30.keep (Kept.made hm (by repeat (first | exact List.Mem.head _ | apply List.Mem.tail)) hm30 (hm30.base (by simp)).size))) (.nil)))))))) hm (.head _) (by repeat (first | exact List.Mem.head _ | apply List.Mem.tail)) rfl (show (7 : Nat) ≤ maxLen by decide), fun h => absurd (show (7 : Nat) = 0 from h) (by decide)⟩

end Go.Proofs.YtbamklefagghcaaGreatDoor

namespace Go.Proofs.YtbamklefagghcaaGreatDoor
open Go.RowKit Go.PK
set_option linter.unusedVariables false
set_option linter.unusedSimpArgs false
set_option maxRecDepth 100000 in
theorem c_text {v : Value} {l : List Seg} {D : Nat → Prop} (n e c : Nat) (w : World) (hl : sliceRd tySeg D w v l) :
    Calls Tryz.prog 40 #[v, .int .i64 (n : Nat), .int .i64 (e : Nat), .int .i64 (c : Nat)] w fun ee w' => ee = .returned (.string (txt l n e c)) ∧ Later w w' := by
  obtain ⟨A, cp, rfl, hlc, hmx, _⟩ := id hl
  obtain ⟨sb, so, EA, ec, hS⟩ := seg_there hl n
  obtain ⟨eb, eo, FA, fc, hE⟩ := els_there (K := n < l.length) (fun h => (hS h).2.2.2.2.2) e
  refine enter (vs := [Value.slice A l.length cp, .int .i64 (n : Nat), .int .i64 (e : Nat), .int .i64 (c : Nat)]) Tryz.func40 rfl Tryz.ntmps40 rfl ?_
  refine w_seq ?_
  refine rg_text ?_
  refine x_val rfl rfl rfl (v_assign rfl) ?_
  refine x_end ?_
  refine t_norm ?_
  refine w_seq ?_
  refine w_seq ?_
  refine rg_text ?_
  refine x_val rfl rfl rfl (v_move rfl) ?_
  refine x_val rfl rfl rfl (v_move rfl) ?_
  refine x_val rfl rfl rfl (v_len_slice Tryz.underlying29 rfl) ?_
  refine x_bool rfl rfl rfl (v_geq rfl rfl) ?_
  intro b12 hb12
  refine x_val rfl rfl rfl (v_move rfl) ?_
  refine x_if [] rfl rfl rfl rfl rfl (fun hg => by obtain ⟨hg0, _⟩ := hg; subst hg0; (try simp only [List.cons_append, List.nil_append, gvl_nil, gvl_t, gvl_f]); exact v_move rfl) ?_
  refine x_if [] rfl rfl rfl rfl rfl (fun hg => by obtain ⟨hg0, _⟩ := hg; subst hg0; (try simp only [List.cons_append, List.nil_append, gvl_nil, gvl_t, gvl_f]); exact v_move rfl) ?_
  refine x_if [] rfl rfl rfl rfl rfl (fun hg => by obtain ⟨hg0, _⟩ := hg; subst hg0; (try simp only [List.cons_append, List.nil_append, gvl_nil, gvl_t, gvl_f]); exact v_move rfl) ?_
  refine x_if [] rfl rfl rfl rfl rfl (fun hg => by obtain ⟨hg0, _⟩ := hg; subst hg0; (try simp only [List.cons_append, List.nil_append, gvl_nil, gvl_t, gvl_f]); have h1 : n < l.length := (by have h0 := hb12.symm; simp only [decide_eq_false_iff_not] at h0; omega); exact v_indexAddr Tryz.underlying29 sz49 (congrArg (fun A => some (Value.slice A l.length cp)) (hS h1).1) rfl (h1) rfl) ?_
  refine x_if [] rfl rfl rfl rfl rfl (fun hg => by obtain ⟨hg0, _⟩ := hg; subst hg0; (try simp only [List.cons_append, List.nil_append, gvl_nil, gvl_t, gvl_f]); exact v_fieldAddr Tryz.underlying49 rfl sz47 (by decide) rfl rfl) ?_
  refine x_if [] rfl rfl rfl rfl rfl (fun hg => by obtain ⟨hg0, _⟩ := hg; subst hg0; (try simp only [List.cons_append, List.nil_append, gvl_nil, gvl_t, gvl_f]); have h1 : n < l.length := (by have h0 := hb12.symm; simp only [decide_eq_false_iff_not] at h0; omega); exact v_load Tryz.underlying47 rfl rfl (at_ro (.head _) trivial (hS h1).2.2.2.1)) ?_
  refine x_if [] rfl rfl rfl rfl rfl (fun hg => by obtain ⟨hg0, _⟩ := hg; subst hg0; (try simp only [List.cons_append, List.nil_append, gvl_nil, gvl_t, gvl_f]); exact v_len_slice Tryz.underlying47 rfl) ?_
  refine x_ifb [] rfl rfl rfl rfl rfl (fun hg => by obtain ⟨hg0, _⟩ := hg; subst hg0; (try simp only [List.cons_append, List.nil_append, gvl_nil, gvl_t, gvl_f]); exact v_geq rfl rfl) ?_
  intro b21 hb21
  refine x_bool rfl rfl rfl (v_or rfl rfl) ?_
  intro b22 hb22
  refine x_val rfl rfl rfl (v_move rfl) ?_
  refine x_if [] rfl rfl rfl rfl rfl (fun hg => by obtain ⟨hg0, _⟩ := hg; subst hg0; (try simp only [List.cons_append, List.nil_append, gvl_nil, gvl_t, gvl_f]); exact v_move rfl) ?_
  refine x_if [] rfl rfl rfl rfl rfl (fun hg => by obtain ⟨hg0, _⟩ := hg; subst hg0; (try simp only [List.cons_append, List.nil_append, gvl_nil, gvl_t, gvl_f]); exact v_move rfl) ?_
  refine x_if [] rfl rfl rfl rfl rfl (fun hg => by obtain ⟨hg0, _⟩ := hg; subst hg0; (try simp only [List.cons_append, List.nil_append, gvl_nil, gvl_t, gvl_f]); exact v_move rfl) ?_
  refine x_if [] rfl rfl rfl rfl rfl (fun hg => by obtain ⟨hg0, _⟩ := hg; subst hg0; (try simp only [List.cons_append, List.nil_append, gvl_nil, gvl_t, gvl_f]); have h12 : n < l.length ∧ e < (segD l n).els.length := (by have h0 := hb22.symm; simp only [hb12, hb21, Bool.or_eq_false_iff, decide_eq_false_iff_not] at h0; omega); exact v_indexAddr Tryz.underlying29 sz49 (congrArg (fun A => some (Value.slice A l.length cp)) (hS h12.1).1) rfl (h12.1) rfl) ?_
  refine x_if [] rfl rfl rfl rfl rfl (fun hg => by obtain ⟨hg0, _⟩ := hg; subst hg0; (try simp only [List.cons_append, List.nil_append, gvl_nil, gvl_t, gvl_f]); exact v_fieldAddr Tryz.underlying49 rfl sz47 (by decide) rfl rfl) ?_
  refine x_if [] rfl rfl rfl rfl rfl (fun hg => by obtain ⟨hg0, _⟩ := hg; subst hg0; (try simp only [List.cons_append, List.nil_append, gvl_nil, gvl_t, gvl_f]); have h12 : n < l.length ∧ e < (segD l n).els.length := (by have h0 := hb22.symm; simp only [hb12, hb21, Bool.or_eq_false_iff, decide_eq_false_iff_not] at h0; omega); exact v_load Tryz.underlying47 rfl rfl (at_ro (.head _) trivial (hS h12.1).2.2.2.1)) ?_
  refine x_if [] rfl rfl rfl rfl rfl (fun hg => by obtain ⟨hg0, _⟩ := hg; subst hg0; (try simp only [List.cons_append, List.nil_append, gvl_nil, gvl_t, gvl_f]); exact v_move rfl) ?_
  refine x_if [] rfl rfl rfl rfl rfl (fun hg => by obtain ⟨hg0, _⟩ := hg; subst hg0; (try simp only [List.cons_append, List.nil_append, gvl_nil, gvl_t, gvl_f]); have h12 : n < l.length ∧ e < (segD l n).els.length := (by have h0 := hb22.symm; simp only [hb12, hb21, Bool.or_eq_false_iff, decide_eq_false_iff_not] at h0; omega); exact v_indexAddr Tryz.underlying47 sz54 (congrArg (fun A => some (Value.slice A (segD l n).els.length ec)) (hE h12.1 h12.2).1) rfl (h12.2) rfl) ?_
  refine x_if [] rfl rfl rfl rfl rfl (fun hg => by obtain ⟨hg0, _⟩ := hg; subst hg0; (try simp only [List.cons_append, List.nil_append, gvl_nil, gvl_t, gvl_f]); have h12 : n < l.length ∧ e < (segD l n).els.length := (by have h0 := hb22.symm; simp only [hb12, hb21, Bool.or_eq_false_iff, decide_eq_false_iff_not] at h0; omega); exact v_load Tryz.underlying54 rfl rfl (at_ro (.head _) trivial (by rw [Nat.mul_one]; exact (hE h12.1 h12.2).2.2.1))) ?_
  refine x_if [] rfl rfl rfl rfl rfl (fun hg => by obtain ⟨hg0, _⟩ := hg; subst hg0; (try simp only [List.cons_append, List.nil_append, gvl_nil, gvl_t, gvl_f]); exact v_len_slice Tryz.underlying54 rfl) ?_
  refine x_ifb [] rfl rfl rfl rfl rfl (fun hg => by obtain ⟨hg0, _⟩ := hg; subst hg0; (try simp only [List.cons_append, List.nil_append, gvl_nil, gvl_t, gvl_f]); exact v_geq rfl rfl) ?_
  intro b34 hb34
  refine x_bool rfl rfl rfl (v_or rfl rfl) ?_
  intro b35 hb35
  refine x_end ?_
  refine t_norm ?_
  refine w_cond rfl (fun hc35 => ?_) (fun hc35 => ?_)
  · have hno : ¬(n < l.length ∧ e < (segD l n).els.length ∧ c < (elsD (segD l n).els e).length) := fun h => by
      simp only [hb35, hb34, hb22, hb21, hb12, Bool.or_eq_true, decide_eq_true_eq] at hc35
      omega
    refine w_seq ?_
    refine rg_text ?_
    refine x_val rfl rfl rfl (v_assign rfl) ?_
    refine x_end ?_
    refine t_norm ?_
    refine w_ret ?_
    refine t_ret ?_
    refine ret1 rfl rfl (fun w' hm => ⟨?_, hm.base (by simp)⟩)
    unfold txt; rw [txO_out hno]; rfl
  · have hin : n < l.length ∧ e < (segD l n).els.length ∧ c < (elsD (segD l n).els e).length := by
      simp only [hb35, hb34, hb22, hb21, hb12, Bool.or_eq_false_iff, decide_eq_false_iff_not] at hc35
      omega
    obtain ⟨k1, k2, k3⟩ := hin
    obtain ⟨s1, _, _, s4, _, s6⟩ := hS k1
    obtain ⟨e1, _, e3, e4⟩ := hE k1 k2
    obtain ⟨fb, fo, f1, _, f3, _⟩ := s_at e4 k3
    refine w_skip ?_
    refine t_norm ?_
    refine w_seq ?_
    refine rg_text ?_
    refine x_val rfl rfl rfl (v_move rfl) ?_
    refine x_val rfl rfl rfl (v_move rfl) ?_
    refine x_val rfl rfl rfl (v_indexAddr Tryz.underlying29 sz49 (congrArg (fun A => some (Value.slice A l.length cp)) s1) rfl (by first | omega | (dsimp only; omega)) rfl) ?_
    refine x_val rfl rfl rfl (v_fieldAddr Tryz.underlying49 rfl sz47 (by decide) rfl rfl) ?_
    refine x_val rfl rfl rfl (v_load Tryz.underlying47 rfl rfl (at_ro (.head _) trivial s4)) ?_
    refine x_val rfl rfl rfl (v_move rfl) ?_
    refine x_val rfl rfl rfl (v_indexAddr Tryz.underlying47 sz54 (congrArg (fun A => some (Value.slice A (segD l n).els.length ec)) e1) rfl (by first | omega | (dsimp only; omega)) rfl) ?_
    refine x_val rfl rfl rfl (v_load Tryz.underlying54 rfl rfl (at_ro (.head _) trivial (by rw [Nat.mul_one]; exact e3))) ?_
    refine x_val rfl rfl rfl (v_move rfl) ?_
    refine x_val rfl rfl rfl (v_indexAddr Tryz.underlying54 sz9 (congrArg (fun A => some (Value.slice A (elsD (segD l n).els e).length fc)) f1) rfl (by first | omega | (dsimp only; omega)) rfl) ?_
    refine x_val rfl rfl rfl (v_load Tryz.underlying9 rfl rfl (at_ro (.head _) trivial (by rw [Nat.mul_one]; exact f3))) ?_
    refine x_val rfl rfl rfl (v_assign rfl) ?_
    refine x_end ?_
    refine t_norm ?_
    refine w_ret ?_
    refine ret1 rfl rfl (fun w' hm => ⟨?_, hm.base (by simp)⟩)
    unfold txt; rw [txO_in k1 k2 k3]; rfl
set_option maxRecDepth 100000 in
theorem c_at {v : Value} {l : List Seg} {D : Nat → Prop} (n e c : Nat) (w : World) (hl : sliceRd tySeg D w v l) :
    Calls Tryz.prog 58 #[v, .int .i64 (n : Nat), .int .i64 (e : Nat), .int .i64 (c : Nat)] w fun ee w' => ee = .returned (.tuple #[.int .i64 (atP l n e c).1, .bool (atP l n e c).2]) ∧ Later w w' := by
  obtain ⟨A, cp, rfl, hlc, hmx, _⟩ := id hl
  obtain ⟨sb, so, EA, ec, hS⟩ := seg_there hl n
  obtain ⟨eb, eo, FA, fc, hE⟩ := els_there (K := n < l.length) (fun h => (hS h).2.2.2.2.2) e
  refine enter (vs := [Value.slice A l.length cp, .int .i64 (n : Nat), .int .i64 (e : Nat), .int .i64 (c : Nat)]) Tryz.func58 rfl Tryz.ntmps58 rfl ?_
  refine w_seq ?_
  refine rg_text ?_
  refine x_val rfl rfl rfl (v_assign rfl) ?_
  refine x_val rfl rfl rfl (v_assign rfl) ?_
  refine x_end ?_
  refine t_norm ?_
  refine w_seq ?_
  refine w_seq ?_
  refine rg_text ?_
  refine x_val rfl rfl rfl (v_move rfl) ?_
  refine x_bool rfl rfl rfl (v_lss rfl rfl) ?_
  intro b11 hb11
  refine x_val rfl rfl rfl (v_move rfl) ?_
  refine x_if [] rfl rfl rfl rfl rfl (fun hg => by obtain ⟨hg0, _⟩ := hg; subst hg0; (try simp only [List.cons_append, List.nil_append, gvl_nil, gvl_t, gvl_f]); exact v_move rfl) ?_
  refine x_if [] rfl rfl rfl rfl rfl (fun hg => by obtain ⟨hg0, _⟩ := hg; subst hg0; (try simp only [List.cons_append, List.nil_append, gvl_nil, gvl_t, gvl_f]); exact v_move rfl) ?_
  refine x_if [] rfl rfl rfl rfl rfl (fun hg => by obtain ⟨hg0, _⟩ := hg; subst hg0; (try simp only [List.cons_append, List.nil_append, gvl_nil, gvl_t, gvl_f]); exact v_len_slice Tryz.underlying29 rfl) ?_
  refine x_ifb [] rfl rfl rfl rfl rfl (fun hg => by obtain ⟨hg0, _⟩ := hg; subst hg0; (try simp only [List.cons_append, List.nil_append, gvl_nil, gvl_t, gvl_f]); exact v_geq rfl rfl) ?_
  intro b16 hb16
  refine x_bool rfl rfl rfl (v_or rfl rfl) ?_
  intro b17 hb17
  refine x_val rfl rfl rfl (v_move rfl) ?_
  refine x_if [] rfl rfl rfl rfl rfl (fun hg => by obtain ⟨hg0, _⟩ := hg; subst hg0; (try simp only [List.cons_append, List.nil_append, gvl_nil, gvl_t, gvl_f]); exact v_move rfl) ?_
  refine x_if [] rfl rfl rfl rfl rfl (fun hg => by obtain ⟨hg0, _⟩ := hg; subst hg0; (try simp only [List.cons_append, List.nil_append, gvl_nil, gvl_t, gvl_f]); exact v_move rfl) ?_
  refine x_if [] rfl rfl rfl rfl rfl (fun hg => by obtain ⟨hg0, _⟩ := hg; subst hg0; (try simp only [List.cons_append, List.nil_append, gvl_nil, gvl_t, gvl_f]); exact v_move rfl) ?_
  refine x_if [] rfl rfl rfl rfl rfl (fun hg => by obtain ⟨hg0, _⟩ := hg; subst hg0; (try simp only [List.cons_append, List.nil_append, gvl_nil, gvl_t, gvl_f]); have h1 : n < l.length := (by have h0 := hb17.symm; simp only [hb11, hb16, Bool.or_eq_false_iff, decide_eq_false_iff_not] at h0; omega); exact v_indexAddr Tryz.underlying29 sz49 (congrArg (fun A => some (Value.slice A l.length cp)) (hS h1).1) rfl (h1) rfl) ?_
  refine x_if [] rfl rfl rfl rfl rfl (fun hg => by obtain ⟨hg0, _⟩ := hg; subst hg0; (try simp only [List.cons_append, List.nil_append, gvl_nil, gvl_t, gvl_f]); exact v_fieldAddr Tryz.underlying49 rfl sz47 (by decide) rfl rfl) ?_
  refine x_if [] rfl rfl rfl rfl rfl (fun hg => by obtain ⟨hg0, _⟩ := hg; subst hg0; (try simp only [List.cons_append, List.nil_append, gvl_nil, gvl_t, gvl_f]); have h1 : n < l.length := (by have h0 := hb17.symm; simp only [hb11, hb16, Bool.or_eq_false_iff, decide_eq_false_iff_not] at h0; omega); exact v_load Tryz.underlying47 rfl rfl (at_ro (.head _) trivial (hS h1).2.2.2.1)) ?_
  refine x_if [] rfl rfl rfl rfl rfl (fun hg => by obtain ⟨hg0, _⟩ := hg; subst hg0; (try simp only [List.cons_append, List.nil_append, gvl_nil, gvl_t, gvl_f]); exact v_len_slice Tryz.underlying47 rfl) ?_
  refine x_ifb [] rfl rfl rfl rfl rfl (fun hg => by obtain ⟨hg0, _⟩ := hg; subst hg0; (try simp only [List.cons_append, List.nil_append, gvl_nil, gvl_t, gvl_f]); exact v_geq rfl rfl) ?_
  intro b26 hb26
  refine x_bool rfl rfl rfl (v_or rfl rfl) ?_
  intro b27 hb27
  refine x_val rfl rfl rfl (v_move rfl) ?_
  refine x_if [] rfl rfl rfl rfl rfl (fun hg => by obtain ⟨hg0, _⟩ := hg; subst hg0; (try simp only [List.cons_append, List.nil_append, gvl_nil, gvl_t, gvl_f]); exact v_move rfl) ?_
  refine x_if [] rfl rfl rfl rfl rfl (fun hg => by obtain ⟨hg0, _⟩ := hg; subst hg0; (try simp only [List.cons_append, List.nil_append, gvl_nil, gvl_t, gvl_f]); exact v_move rfl) ?_
  refine x_if [] rfl rfl rfl rfl rfl (fun hg => by obtain ⟨hg0, _⟩ := hg; subst hg0; (try simp only [List.cons_append, List.nil_append, gvl_nil, gvl_t, gvl_f]); exact v_move rfl) ?_
  refine x_if [] rfl rfl rfl rfl rfl (fun hg => by obtain ⟨hg0, _⟩ := hg; subst hg0; (try simp only [List.cons_append, List.nil_append, gvl_nil, gvl_t, gvl_f]); have h12 : n < l.length ∧ e < (segD l n).els.length := (by have h0 := hb27.symm; simp only [hb11, hb16, hb17, hb26, Bool.or_eq_false_iff, decide_eq_false_iff_not] at h0; omega); exact v_indexAddr Tryz.underlying29 sz49 (congrArg (fun A => some (Value.slice A l.length cp)) (hS h12.1).1) rfl (h12.1) rfl) ?_
  refine x_if [] rfl rfl rfl rfl rfl (fun hg => by obtain ⟨hg0, _⟩ := hg; subst hg0; (try simp only [List.cons_append, List.nil_append, gvl_nil, gvl_t, gvl_f]); exact v_fieldAddr Tryz.underlying49 rfl sz47 (by decide) rfl rfl) ?_
  refine x_if [] rfl rfl rfl rfl rfl (fun hg => by obtain ⟨hg0, _⟩ := hg; subst hg0; (try simp only [List.cons_append, List.nil_append, gvl_nil, gvl_t, gvl_f]); have h12 : n < l.length ∧ e < (segD l n).els.length := (by have h0 := hb27.symm; simp only [hb11, hb16, hb17, hb26, Bool.or_eq_false_iff, decide_eq_false_iff_not] at h0; omega); exact v_load Tryz.underlying47 rfl rfl (at_ro (.head _) trivial (hS h12.1).2.2.2.1)) ?_
  refine x_if [] rfl rfl rfl rfl rfl (fun hg => by obtain ⟨hg0, _⟩ := hg; subst hg0; (try simp only [List.cons_append, List.nil_append, gvl_nil, gvl_t, gvl_f]); exact v_move rfl) ?_
  refine x_if [] rfl rfl rfl rfl rfl (fun hg => by obtain ⟨hg0, _⟩ := hg; subst hg0; (try simp only [List.cons_append, List.nil_append, gvl_nil, gvl_t, gvl_f]); have h12 : n < l.length ∧ e < (segD l n).els.length := (by have h0 := hb27.symm; simp only [hb11, hb16, hb17, hb26, Bool.or_eq_false_iff, decide_eq_false_iff_not] at h0; omega); exact v_indexAddr Tryz.underlying47 sz54 (congrArg (fun A => some (Value.slice A (segD l n).els.length ec)) (hE h12.1 h12.2).1) rfl (h12.2) rfl) ?_
  refine x_if [] rfl rfl rfl rfl rfl (fun hg => by obtain ⟨hg0, _⟩ := hg; subst hg0; (try simp only [List.cons_append, List.nil_append, gvl_nil, gvl_t, gvl_f]); have h12 : n < l.length ∧ e < (segD l n).els.length := (by have h0 := hb27.symm; simp only [hb11, hb16, hb17, hb26, Bool.or_eq_false_iff, decide_eq_false_iff_not] at h0; omega); exact v_load Tryz.underlying54 rfl rfl (at_ro (.head _) trivial (by rw [Nat.mul_one]; exact (hE h12.1 h12.2).2.2.1))) ?_
  refine x_if [] rfl rfl rfl rfl rfl (fun hg => by obtain ⟨hg0, _⟩ := hg; subst hg0; (try simp only [List.cons_append, List.nil_append, gvl_nil, gvl_t, gvl_f]); exact v_len_slice Tryz.underlying54 rfl) ?_
  refine x_ifb [] rfl rfl rfl rfl rfl (fun hg => by obtain ⟨hg0, _⟩ := hg; subst hg0; (try simp only [List.cons_append, List.nil_append, gvl_nil, gvl_t, gvl_f]); exact v_geq rfl rfl) ?_
  intro b39 hb39
  refine x_bool rfl rfl rfl (v_or rfl rfl) ?_
  intro b40 hb40
  refine x_end ?_
  refine t_norm ?_
  refine w_cond rfl (fun hc40 => ?_) (fun hc40 => ?_)
  · have hno : ¬(n < l.length ∧ e < (segD l n).els.length ∧ c < (elsD (segD l n).els e).length) := fun h => by
      simp only [hb40, hb39, hb27, hb26, hb17, hb16, hb11, Bool.or_eq_true, decide_eq_true_eq] at hc40
      omega
    refine w_seq ?_
    refine rg_text ?_
    refine x_val rfl rfl rfl (v_assign rfl) ?_
    refine x_val rfl rfl rfl (v_assign rfl) ?_
    refine x_end ?_
    refine t_norm ?_
    refine w_ret ?_
    refine t_ret ?_
    refine ret2 rfl rfl rfl (fun w' hm => ⟨?_, hm.base (by simp)⟩)
    unfold atP; rw [txO_out hno]
  · have hin : n < l.length ∧ e < (segD l n).els.length ∧ c < (elsD (segD l n).els e).length := by
      simp only [hb40, hb39, hb27, hb26, hb17, hb16, hb11, Bool.or_eq_false_iff, decide_eq_false_iff_not] at hc40
      omega
    obtain ⟨k1, k2, k3⟩ := hin
    obtain ⟨s1, _, _, s4, _, s6⟩ := hS k1
    obtain ⟨e1, _, e3, e4⟩ := hE k1 k2
    obtain ⟨fb, fo, f1, _, f3, _⟩ := s_at e4 k3
    refine w_skip ?_
    refine t_norm ?_
    refine w_seq ?_
    refine rg_text ?_
    refine x_val rfl rfl rfl (v_move rfl) ?_
    refine x_val rfl rfl rfl (v_move rfl) ?_
    refine x_val rfl rfl rfl (v_indexAddr Tryz.underlying29 sz49 (congrArg (fun A => some (Value.slice A l.length cp)) s1) rfl (by first | omega | (dsimp only; omega)) rfl) ?_
    refine x_val rfl rfl rfl (v_fieldAddr Tryz.underlying49 rfl sz47 (by decide) rfl rfl) ?_
    refine x_val rfl rfl rfl (v_load Tryz.underlying47 rfl rfl (at_ro (.head _) trivial s4)) ?_
    refine x_val rfl rfl rfl (v_move rfl) ?_
    refine x_val rfl rfl rfl (v_indexAddr Tryz.underlying47 sz54 (congrArg (fun A => some (Value.slice A (segD l n).els.length ec)) e1) rfl (by first | omega | (dsimp only; omega)) rfl) ?_
    refine x_val rfl rfl rfl (v_load Tryz.underlying54 rfl rfl (at_ro (.head _) trivial (by rw [Nat.mul_one]; exact e3))) ?_
    refine x_val rfl rfl rfl (v_move rfl) ?_
    refine x_val rfl rfl rfl (v_indexAddr Tryz.underlying54 sz9 (congrArg (fun A => some (Value.slice A (elsD (segD l n).els e).length fc)) f1) rfl (by first | omega | (dsimp only; omega)) rfl) ?_
    refine x_val rfl rfl rfl (v_load Tryz.underlying9 rfl rfl (at_ro (.head _) trivial (by rw [Nat.mul_one]; exact f3))) ?_
    refine x_callv rfl rfl rfl Tryz.func59 (by kernel_rfl) rfl (fun w1 hw1 => c_value _ 9 w1 (by decide)) ?_
    refine x_val rfl rfl rfl (v_extract rfl rfl) ?_
    refine x_bool rfl rfl rfl (v_extract rfl rfl) ?_
    intro b54 hb54
    refine x_val rfl rfl rfl (v_assign rfl) ?_
    refine x_val rfl rfl rfl (v_assign rfl) ?_
    refine x_end ?_
    refine t_norm ?_
    refine w_ret ?_
    refine ret2 rfl rfl rfl (fun w' hm => ⟨?_, hm.base (by simp)⟩)
    rw [hb54]; unfold atP; rw [txO_in k1 k2 k3]; rfl
set_option maxRecDepth 100000 in
theorem c_rrec {v : Value} {l : List Seg} {D : Nat → Prop} (n : Nat) (w : World) (hl : sliceRd tySeg D w v l) :
    Calls Tryz.prog 57 #[v, .int .i64 (n : Nat)] w fun ee w' => ee = .returned (.tuple #[.agg #[.int .i64 (rrec l n).1.1, .int .i64 (rrec l n).1.2], .bool (rrec l n).2]) ∧ Later w w' := by
  obtain ⟨A, cp, rfl, hlc, hmx, _⟩ := id hl
  obtain ⟨sb, so, EA, ec, hS⟩ := seg_there hl n
  obtain ⟨eb, eo, FA, fc, hE⟩ := els_there (K := n < l.length) (fun h => (hS h).2.2.2.2.2) 2
  refine enter (vs := [Value.slice A l.length cp, .int .i64 (n : Nat)]) Tryz.func57 rfl Tryz.ntmps57 rfl ?_
  refine w_seq ?_
  refine rg_text ?_
  refine x_alloc rfl rfl rfl zr23 ?_
  intro p4
  refine x_val rfl rfl rfl (v_assign rfl) ?_
  refine x_end ?_
  refine t_norm ?_
  refine w_seq ?_
  refine w_seq ?_
  refine rg_text ?_
  refine x_val rfl rfl rfl (v_move rfl) ?_
  refine x_bool rfl rfl rfl (v_lss rfl rfl) ?_
  intro b13 hb13
  refine x_val rfl rfl rfl (v_move rfl) ?_
  refine x_if [] rfl rfl rfl rfl rfl (fun hg => by obtain ⟨hg0, _⟩ := hg; subst hg0; (try simp only [List.cons_append, List.nil_append, gvl_nil, gvl_t, gvl_f]); exact v_move rfl) ?_
  refine x_if [] rfl rfl rfl rfl rfl (fun hg => by obtain ⟨hg0, _⟩ := hg; subst hg0; (try simp only [List.cons_append, List.nil_append, gvl_nil, gvl_t, gvl_f]); exact v_move rfl) ?_
  refine x_if [] rfl rfl rfl rfl rfl (fun hg => by obtain ⟨hg0, _⟩ := hg; subst hg0; (try simp only [List.cons_append, List.nil_append, gvl_nil, gvl_t, gvl_f]); exact v_len_slice Tryz.underlying29 rfl) ?_
  refine x_ifb [] rfl rfl rfl rfl rfl (fun hg => by obtain ⟨hg0, _⟩ := hg; subst hg0; (try simp only [List.cons_append, List.nil_append, gvl_nil, gvl_t, gvl_f]); exact v_geq rfl rfl) ?_
  intro b18 hb18
  refine x_bool rfl rfl rfl (v_or rfl rfl) ?_
  intro b19 hb19
  refine x_val rfl rfl rfl (v_move rfl) ?_
  refine x_if [] rfl rfl rfl rfl rfl (fun hg => by obtain ⟨hg0, _⟩ := hg; subst hg0; (try simp only [List.cons_append, List.nil_append, gvl_nil, gvl_t, gvl_f]); exact v_move rfl) ?_
  refine x_if [] rfl rfl rfl rfl rfl (fun hg => by obtain ⟨hg0, _⟩ := hg; subst hg0; (try simp only [List.cons_append, List.nil_append, gvl_nil, gvl_t, gvl_f]); exact v_move rfl) ?_
  refine x_if [] rfl rfl rfl rfl rfl (fun hg => by obtain ⟨hg0, _⟩ := hg; subst hg0; (try simp only [List.cons_append, List.nil_append, gvl_nil, gvl_t, gvl_f]); have h1 : n < l.length := (by have h0 := hb19.symm; simp only [hb13, hb18, Bool.or_eq_false_iff, decide_eq_false_iff_not] at h0; omega); exact v_indexAddr Tryz.underlying29 sz49 (congrArg (fun A => some (Value.slice A l.length cp)) (hS h1).1) rfl (h1) rfl) ?_
  refine x_if [] rfl rfl rfl rfl rfl (fun hg => by obtain ⟨hg0, _⟩ := hg; subst hg0; (try simp only [List.cons_append, List.nil_append, gvl_nil, gvl_t, gvl_f]); exact v_fieldAddr Tryz.underlying49 rfl sz47 (by decide) rfl rfl) ?_
  refine x_if [] rfl rfl rfl rfl rfl (fun hg => by obtain ⟨hg0, _⟩ := hg; subst hg0; (try simp only [List.cons_append, List.nil_append, gvl_nil, gvl_t, gvl_f]); have h1 : n < l.length := (by have h0 := hb19.symm; simp only [hb13, hb18, Bool.or_eq_false_iff, decide_eq_false_iff_not] at h0; omega); exact v_load Tryz.underlying47 rfl rfl (at_ro (.head _) trivial (hS h1).2.2.2.1)) ?_
  refine x_if [] rfl rfl rfl rfl rfl (fun hg => by obtain ⟨hg0, _⟩ := hg; subst hg0; (try simp only [List.cons_append, List.nil_append, gvl_nil, gvl_t, gvl_f]); exact v_len_slice Tryz.underlying47 rfl) ?_
  refine x_ifb [] rfl rfl rfl rfl rfl (fun hg => by obtain ⟨hg0, _⟩ := hg; subst hg0; (try simp only [List.cons_append, List.nil_append, gvl_nil, gvl_t, gvl_f]); exact v_lss rfl rfl) ?_
  intro b27 hb27
  refine x_bool rfl rfl rfl (v_or rfl rfl) ?_
  intro b28 hb28
  refine x_val rfl rfl rfl (v_move rfl) ?_
  refine x_if [] rfl rfl rfl rfl rfl (fun hg => by obtain ⟨hg0, _⟩ := hg; subst hg0; (try simp only [List.cons_append, List.nil_append, gvl_nil, gvl_t, gvl_f]); exact v_move rfl) ?_
  refine x_if [] rfl rfl rfl rfl rfl (fun hg => by obtain ⟨hg0, _⟩ := hg; subst hg0; (try simp only [List.cons_append, List.nil_append, gvl_nil, gvl_t, gvl_f]); exact v_move rfl) ?_
  refine x_if [] rfl rfl rfl rfl rfl (fun hg => by obtain ⟨hg0, _⟩ := hg; subst hg0; (try simp only [List.cons_append, List.nil_append, gvl_nil, gvl_t, gvl_f]); have h12 : n < l.length ∧ 2 < (segD l n).els.length := (by have h0 := hb28.symm; simp only [hb13, hb18, hb19, hb27, Bool.or_eq_false_iff, decide_eq_false_iff_not] at h0; omega); exact v_indexAddr Tryz.underlying29 sz49 (congrArg (fun A => some (Value.slice A l.length cp)) (hS h12.1).1) rfl (h12.1) rfl) ?_
  refine x_if [] rfl rfl rfl rfl rfl (fun hg => by obtain ⟨hg0, _⟩ := hg; subst hg0; (try simp only [List.cons_append, List.nil_append, gvl_nil, gvl_t, gvl_f]); exact v_fieldAddr Tryz.underlying49 rfl sz47 (by decide) rfl rfl) ?_
  refine x_if [] rfl rfl rfl rfl rfl (fun hg => by obtain ⟨hg0, _⟩ := hg; subst hg0; (try simp only [List.cons_append, List.nil_append, gvl_nil, gvl_t, gvl_f]); have h12 : n < l.length ∧ 2 < (segD l n).els.length := (by have h0 := hb28.symm; simp only [hb13, hb18, hb19, hb27, Bool.or_eq_false_iff, decide_eq_false_iff_not] at h0; omega); exact v_load Tryz.underlying47 rfl rfl (at_ro (.head _) trivial (hS h12.1).2.2.2.1)) ?_
  refine x_if [] rfl rfl rfl rfl rfl (fun hg => by obtain ⟨hg0, _⟩ := hg; subst hg0; (try simp only [List.cons_append, List.nil_append, gvl_nil, gvl_t, gvl_f]); have h12 : n < l.length ∧ 2 < (segD l n).els.length := (by have h0 := hb28.symm; simp only [hb13, hb18, hb19, hb27, Bool.or_eq_false_iff, decide_eq_false_iff_not] at h0; omega); exact v_indexAddr (j := 2) Tryz.underlying47 sz54 (congrArg (fun A => some (Value.slice A (segD l n).els.length ec)) (hE h12.1 h12.2).1) rfl (h12.2) rfl) ?_
  refine x_if [] rfl rfl rfl rfl rfl (fun hg => by obtain ⟨hg0, _⟩ := hg; subst hg0; (try simp only [List.cons_append, List.nil_append, gvl_nil, gvl_t, gvl_f]); have h12 : n < l.length ∧ 2 < (segD l n).els.length := (by have h0 := hb28.symm; simp only [hb13, hb18, hb19, hb27, Bool.or_eq_false_iff, decide_eq_false_iff_not] at h0; omega); exact v_load Tryz.underlying54 rfl rfl (at_ro (.head _) trivial (by rw [Nat.mul_one]; exact (hE h12.1 h12.2).2.2.1))) ?_
  refine x_if [] rfl rfl rfl rfl rfl (fun hg => by obtain ⟨hg0, _⟩ := hg; subst hg0; (try simp only [List.cons_append, List.nil_append, gvl_nil, gvl_t, gvl_f]); exact v_len_slice Tryz.underlying54 rfl) ?_
  refine x_ifb [] rfl rfl rfl rfl rfl (fun hg => by obtain ⟨hg0, _⟩ := hg; subst hg0; (try simp only [List.cons_append, List.nil_append, gvl_nil, gvl_t, gvl_f]); exact v_lss rfl rfl) ?_
  intro b38 hb38
  refine x_bool rfl rfl rfl (v_or rfl rfl) ?_
  intro b39 hb39
  refine x_end ?_
  refine t_norm ?_
  refine w_cond rfl (fun hc39 => ?_) (fun hc39 => ?_)
  · have hno : ¬(n < l.length ∧ 2 < (segD l n).els.length ∧ 0 < (elsD (segD l n).els 2).length) := fun h => by
      simp only [hb39, hb38, hb28, hb27, hb19, hb18, hb13, Bool.or_eq_true, decide_eq_true_eq] at hc39
      omega
    refine w_seq ?_
    refine rg_text ?_
    refine x_val rfl rfl rfl (v_buildL (places := [(0, 1), (1, 1)]) Tryz.underlying23 zr23 (by kernel_rfl) rfl rfl) ?_
    refine x_store0 [] rfl rfl rfl rfl sz23 rfl rfl ?_
    refine x_val rfl rfl rfl (v_assign rfl) ?_
    refine x_end ?_
    refine t_norm ?_
    refine w_ret ?_
    refine t_ret ?_
    refine retct (cs := #[.int .i64 0, .int .i64 0]) rfl rfl rfl (.head _) Tryz.underlying23 rfl sz23 (fun w' hm => ⟨?_, hm.base (by simp)⟩)
    rw [rrec_out hno]
  · have hin : n < l.length ∧ 2 < (segD l n).els.length ∧ 0 < (elsD (segD l n).els 2).length := by
      simp only [hb39, hb38, hb28, hb27, hb19, hb18, hb13, Bool.or_eq_false_iff, decide_eq_false_iff_not] at hc39
      omega
    obtain ⟨k1, k2, k3⟩ := hin
    obtain ⟨s1, _, _, s4, _, s6⟩ := hS k1
    obtain ⟨e1, _, e3, e4⟩ := hE k1 k2
    obtain ⟨fb, fo, f1, _, f3, fok⟩ := s_at e4 k3
    have hrr := rrec_in k1 k2 k3
    obtain ⟨s, hs⟩ : ∃ s, (elsD (segD l n).els 2)[0] = s := ⟨_, rfl⟩
    rw [hs] at f3 fok hrr
    have hsz : s.size ≤ 9223372036854775807 := fok
    refine w_skip ?_
    refine t_norm ?_
    refine w_seq ?_
    refine rg_text ?_
    refine x_val rfl rfl rfl (v_move rfl) ?_
    refine x_val rfl rfl rfl (v_move rfl) ?_
    refine x_val rfl rfl rfl (v_indexAddr Tryz.underlying29 sz49 (congrArg (fun A => some (Value.slice A l.length cp)) s1) rfl (by first | omega | (dsimp only; omega)) rfl) ?_
    refine x_val rfl rfl rfl (v_fieldAddr Tryz.underlying49 rfl sz47 (by decide) rfl rfl) ?_
    refine x_val rfl rfl rfl (v_load Tryz.underlying47 rfl rfl (at_ro (.head _) trivial s4)) ?_
    refine x_val rfl rfl rfl (v_indexAddr (j := 2) Tryz.underlying47 sz54 (congrArg (fun A => some (Value.slice A (segD l n).els.length ec)) e1) rfl (by first | omega | (dsimp only; omega)) rfl) ?_
    refine x_val rfl rfl rfl (v_load Tryz.underlying54 rfl rfl (at_ro (.head _) trivial (by rw [Nat.mul_one]; exact e3))) ?_
    refine x_val rfl rfl rfl (v_indexAddr (j := 0) Tryz.underlying54 sz9 (congrArg (fun A => some (Value.slice A (elsD (segD l n).els 2).length fc)) f1) rfl (by first | omega | (dsimp only; omega)) rfl) ?_
    refine x_val rfl rfl rfl (v_load Tryz.underlying9 rfl rfl (at_ro (.head _) trivial (by rw [Nat.mul_one]; exact f3))) ?_
    refine x_val rfl rfl rfl (v_assign rfl) ?_
    refine x_end ?_
    refine t_norm ?_
    refine w_seq ?_
    refine w_seq ?_
    refine rg_text ?_
    refine x_val rfl rfl rfl (v_assign rfl) ?_
    refine x_end ?_
    refine t_norm ?_
    refine w_block ?_
    refine w_loop (σ := Nat) (fun k => k ≤ s.size ∧ ∀ j, j < k → byteAt s j ≠ 46) (fun k => [(4, Value.pointer (some ⟨p4, 0, none⟩)), (6, Value.string s), (7, Value.int .i64 (k : Nat))]) (fun k => [(p4, Obj.cells [Value.int .i64 0, .int .i64 0].toArray 23)]) (fun k => [(w, fun _ => True)]) (fun k => s.size - k) (0) (⟨Nat.zero_le _, fun j hj => absurd hj (Nat.not_lt_zero _)⟩) (l_start (by repeat (first | exact Sub.nil | refine Sub.cons rfl ?_)) (fun _ h => h)) ?_
    rintro k ⟨hk, hno⟩
    refine w_state ([(4, Value.pointer (some ⟨p4, 0, none⟩)), (6, Value.string s), (7, Value.int .i64 (k : Nat))]) ([(p4, Obj.cells [Value.int .i64 0, .int .i64 0].toArray 23)]) ([(w, fun _ => True)]) ?_
    refine w_seq ?_
    refine w_seq ?_
    refine rg_text ?_
    refine x_val rfl rfl rfl (v_move rfl) ?_
    refine x_val rfl rfl rfl (v_move rfl) ?_
    refine x_val rfl rfl rfl (v_len_str Tryz.underlying9 rfl) ?_
    refine x_bool rfl rfl rfl (v_lss rfl rfl) ?_
    intro b53 hb53
    refine x_end ?_
    refine t_norm ?_
    refine w_cond rfl (fun hc53 => ?_) (fun hc53 => ?_)
    · simp only [hb53, decide_eq_true_eq, decide_eq_false_iff_not, Bool.and_eq_true, Bool.or_eq_true, Bool.and_eq_false_iff, Bool.or_eq_false_iff, Bool.not_eq_true', Bool.not_eq_false', ne_eq, Decidable.not_not] at hc53
      have hk1 : k < s.size := by omega
      refine w_skip ?_
      refine t_norm ?_
      refine w_seq ?_
      refine w_block ?_
      refine w_seq ?_
      refine rg_text ?_
      refine x_val rfl rfl rfl (v_move rfl) ?_
      refine x_val rfl rfl rfl (v_move rfl) ?_
      refine x_val rfl rfl rfl (v_index Tryz.underlying9 rfl rfl (hk1)) ?_
      refine x_bool rfl rfl rfl (v_eql rfl rfl) ?_
      intro b59 hb59
      refine x_end ?_
      refine t_norm ?_
      refine w_cond rfl (fun hc59 => ?_) (fun hc59 => ?_)
      · simp only [hb59, decide_eq_true_eq, decide_eq_false_iff_not, Bool.and_eq_true, Bool.or_eq_true, Bool.and_eq_false_iff, Bool.or_eq_false_iff, Bool.not_eq_true', Bool.not_eq_false', ne_eq, Decidable.not_not] at hc59
        have hdot : byteAt s k = 46 := u8_lit (k := 46) |>.1 hc59
        have hcut := cut_at hk1 hno hdot
        refine w_seq ?_
        refine rg_text ?_
        refine x_val rfl rfl rfl (v_move rfl) ?_
        refine x_val rfl rfl rfl (v_move rfl) ?_
        refine x_val rfl rfl rfl (v_cut_to (j := k) Tryz.underlying9 rfl rfl (by omega)) ?_
        refine x_callv rfl rfl rfl Tryz.func59 (by kernel_rfl) rfl (fun w1 hw1 => c_value _ 9 w1 (by decide)) ?_
        refine x_val rfl rfl rfl (v_move rfl) ?_
        refine x_val rfl rfl rfl (v_extract rfl rfl) ?_
        refine x_bool rfl rfl rfl (v_extract rfl rfl) ?_
        intro b66 hb66
        refine x_val rfl rfl rfl (v_assign rfl) ?_
        refine x_val rfl rfl rfl (v_assign rfl) ?_
        refine x_end ?_
        refine t_norm ?_
        refine w_seq ?_
        refine rg_text ?_
        refine x_val rfl rfl rfl (v_move rfl) ?_
        refine x_val rfl rfl rfl (v_move rfl) ?_
        refine x_val rfl rfl rfl (v_addi (c := ((k + 1 : Nat) : Int)) rfl rfl (by omega) (by omega)) ?_
        refine x_val rfl rfl rfl (v_cut_from (i := k + 1) Tryz.underlying9 rfl rfl (by omega)) ?_
        refine x_callv rfl rfl rfl Tryz.func59 (by kernel_rfl) rfl (fun w1 hw1 => c_value _ 9 w1 (by decide)) ?_
        refine x_val rfl rfl rfl (v_move rfl) ?_
        refine x_val rfl rfl rfl (v_extract rfl rfl) ?_
        refine x_bool rfl rfl rfl (v_extract rfl rfl) ?_
        intro b74 hb74
        refine x_val rfl rfl rfl (v_assign rfl) ?_
        refine x_val rfl rfl rfl (v_assign rfl) ?_
        refine x_end ?_
        refine t_norm ?_
        refine w_seq ?_
        refine rg_text ?_
        refine x_val rfl rfl rfl (v_move rfl) ?_
        refine x_val rfl rfl rfl (v_move rfl) ?_
        refine x_val rfl rfl rfl (v_buildL (places := [(0, 1), (1, 1)]) Tryz.underlying23 zr23 (by kernel_rfl) rfl rfl) ?_
        refine x_val rfl rfl rfl (v_move rfl) ?_
        refine x_val rfl rfl rfl (v_move rfl) ?_
        refine x_if [] rfl rfl rfl rfl rfl (fun hg => by obtain ⟨hg0, _⟩ := hg; subst hg0; (try simp only [List.cons_append, List.nil_append, gvl_nil, gvl_t, gvl_f]); exact v_move rfl) ?_
        refine x_bool rfl rfl rfl (v_and rfl rfl) ?_
        intro b81 hb81
        refine x_store0 [] rfl rfl rfl rfl sz23 rfl rfl ?_
        refine x_val rfl rfl rfl (v_assign rfl) ?_
        refine x_end ?_
        refine t_norm ?_
        refine w_ret ?_
        refine b_ret ?_
        refine t_ret ?_
        refine t_ret ?_
        refine b_ret ?_
        refine t_ret ?_
        refine retct (cs := #[.int .i64 (valP (s.extract 0 k) 9).1, .int .i64 (valP (s.extract (k + 1) s.size) 9).1]) rfl rfl rfl (.head _) Tryz.underlying23 rfl sz23 (fun w' hm => ⟨?_, hm.base (by simp)⟩)
        rw [hrr]; unfold rrecS; rw [hcut]; simp only [if_true]; rw [hb81, hb66, hb74]
      · simp only [hb59, decide_eq_true_eq, decide_eq_false_iff_not, Bool.and_eq_true, Bool.or_eq_true, Bool.and_eq_false_iff, Bool.or_eq_false_iff, Bool.not_eq_true', Bool.not_eq_false', ne_eq, Decidable.not_not] at hc59
        have hnd : byteAt s k ≠ 46 := fun h => hc59 (by rw [h]; rfl)
        refine w_skip ?_
        refine b_norm ?_
        refine t_norm ?_
        refine rg_text ?_
        refine x_val rfl rfl rfl (v_move rfl) ?_
        refine x_val rfl rfl rfl (v_addi rfl rfl rfl (by first | omega | (dsimp only; omega))) ?_
        refine x_val rfl rfl rfl (v_assign rfl) ?_
        refine x_end ?_
        exact l_norm (k + 1) ⟨by omega, fun j hj => by rcases Nat.lt_succ_iff_lt_or_eq.1 hj with h | rfl; (· exact hno j h); exact hnd⟩ (by omega) (by repeat (first | exact Sub.nil | refine Sub.cons rfl ?_)) (fun _ h => h)
    · simp only [hb53, decide_eq_true_eq, decide_eq_false_iff_not, Bool.and_eq_true, Bool.or_eq_true, Bool.and_eq_false_iff, Bool.or_eq_false_iff, Bool.not_eq_true', Bool.not_eq_false', ne_eq, Decidable.not_not] at hc53
      obtain rfl : k = s.size := by omega
      have hcut := cut_no hno
      refine w_exit ?_
      refine t_exit ?_
      refine t_exit ?_
      refine b_hit ?_
      refine t_norm ?_
      refine w_seq ?_
      refine rg_text ?_
      refine x_val rfl rfl rfl (v_buildL (places := [(0, 1), (1, 1)]) Tryz.underlying23 zr23 (by kernel_rfl) rfl rfl) ?_
      refine x_store0 [] rfl rfl rfl rfl sz23 rfl rfl ?_
      refine x_val rfl rfl rfl (v_assign rfl) ?_
      refine x_end ?_
      refine t_norm ?_
      refine w_ret ?_
      refine retct (cs := #[.int .i64 0, .int .i64 0]) rfl rfl rfl (.head _) Tryz.underlying23 rfl sz23 (fun w' hm => ⟨?_, hm.base (by simp)⟩)
      rw [hrr]; unfold rrecS; rw [hcut]; rfl

end Go.Proofs.YtbamklefagghcaaGreatDoor

namespace Go.Proofs.YtbamklefagghcaaGreatDoor
open Go.RowKit Go.PK
set_option linter.unusedVariables false
set_option linter.unusedSimpArgs false
theorem c_Atoi (s : ByteArray) (w : World) (hs : s.size ≤ 281474976710656) (hL : LD w) :
    Calls Tryz.prog 62 #[.string s] w fun e w' => ∃ n ev b, e = .returned (.tuple #[.int .i64 n, ev]) ∧ Later w w' ∧ isIface ev b ∧ (b = false → Lib.atoiAll (bl s) = .ok n) ∧ (b = true → ∀ v, Lib.atoiAll (bl s) ≠ .ok v) := by
  obtain ⟨_, _, ⟨tp, p, h1⟩, ⟨tp2, p2, h2⟩⟩ := hL
  rcases hq : Lib.atoiAll s.data.toList with v | _ | _
  · refine (Tryz.strconv_Atoi_ok s (by omega) v hq w).mono fun e w' ⟨h3, h4⟩ => ⟨v, .nilIface, false, h3, ?_, .inl ⟨rfl, rfl⟩, fun _ => hq, fun h => by cases h⟩
    rcases h4 with rfl | ⟨t, rfl⟩
    · exact Later.refl _
    · exact Lib.bytesWorld_below w _ t
  · exact (Any.strconv_Atoi_syntax_var Tryz.laysC172 s hs hq tp p w h1).mono fun e w' ⟨N, h3, _, _, h4⟩ => ⟨_, _, true, h3, h4, .inr ⟨⟨_, _, rfl⟩, rfl⟩, (fun h => by cases h), (fun _ v h => by rw [show bl s = s.data.toList from rfl, hq] at h; cases h)⟩
  · exact (Tryz.strconv_Atoi_range_var s hs hq tp2 p2 w h2).mono fun e w' ⟨N, h3, _, _, h4⟩ => ⟨_, _, true, h3, h4, .inr ⟨⟨_, _, rfl⟩, rfl⟩, (fun h => by cases h), (fun _ v h => by rw [show bl s = s.data.toList from rfl, hq] at h; cases h)⟩
theorem c_Cut (s : ByteArray) (w : World) (hs : s.size ≤ 2000000000) (hL : LD w) :
    Calls Tryz.prog 63 #[.string s, .string ⟨#[46]⟩] w fun e w' => e = .returned (.tuple #[.string (cutD s).1, .string (cutD s).2.1, .bool (cutD s).2.2]) ∧ Later w w' := by
  obtain ⟨_, ⟨m, hm⟩, _⟩ := hL
  refine (Tryz.strings_Cut s ⟨#[46]⟩ m w (by omega) hm).mono fun e w' ⟨h1, n, h2⟩ => ⟨h1, ?_⟩
  rw [h2]; exact ⟨rfl, rfl, rfl, Nat.le_refl _, fun _ _ => rfl⟩
theorem readP_in (s : ByteArray) : in64 (readP s) := by
  unfold readP
  split
  · rename_i v h
    split
    · exact Lib.atoiAll_bounds h
    · unfold in64; decide
  · unfold in64; decide
theorem cutD_sz (s : ByteArray) : (cutD s).1.size ≤ s.size ∧ (cutD s).2.1.size ≤ s.size := by
  have e : s.size = (bl s).length := (bl_len s).symm
  unfold cutD Lib.cut
  split
  · constructor
    · show (List.toArray _).size ≤ _; rw [List.size_toArray, e]; exact List.length_take_le' _ _
    · show (List.toArray _).size ≤ _; rw [List.size_toArray, e, List.length_drop]; omega
  · constructor
    · show (List.toArray _).size ≤ _; rw [List.size_toArray, e]; exact Nat.le_refl _
    · exact Nat.zero_le _
def bigO (l : List Seg) : Prop := ∀ x ∈ l, ∀ y ∈ x.els, ∀ s ∈ y, s.size ≤ 2000000000
theorem txt_sz {l : List Seg} (h : bigO l) (n e c : Nat) : (txt l n e c).size ≤ 2000000000 := by
  unfold txt
  by_cases hin : n < l.length ∧ e < (segD l n).els.length ∧ c < (elsD (segD l n).els e).length
  · obtain ⟨k1, k2, k3⟩ := hin
    rw [txO_in k1 k2 k3]
    refine h (segD l n) ?_ (elsD (segD l n).els e) ?_ _ (List.getElem_mem k3)
    · unfold segD; rw [getD_at k1]; exact List.getElem_mem k1
    · unfold elsD; rw [getD_at k2]; exact List.getElem_mem k2
  · rw [txO_out hin]; exact Nat.zero_le _
set_option maxRecDepth 100000 in
theorem c_read (s : ByteArray) (w : World) (hs : s.size ≤ 281474976710656) (hL : LD w) :
    Calls Tryz.prog 39 #[.string s] w fun e w' => e = .returned (.int .i64 (readP s)) ∧ Later w w' := by
  refine enter (vs := [.string s]) Tryz.func39 rfl Tryz.ntmps39 rfl ?_
  refine w_seq ?_
  refine rg_text ?_
  refine x_val rfl rfl rfl (v_assign rfl) ?_
  refine x_end ?_
  refine t_norm ?_
  refine w_seq ?_
  refine rg_text ?_
  refine x_val rfl rfl rfl (v_move rfl) ?_
  refine x_call (R := fun v wa wb => ∃ n ev b, v = .tuple #[.int .i64 n, ev] ∧ isIface ev b ∧ (b = false → Lib.atoiAll (bl s) = .ok n) ∧ (b = true → ∀ v, Lib.atoiAll (bl s) ≠ .ok v)) rfl rfl rfl Tryz.func62 (by kernel_rfl) rfl (fun w1 hw1 => (c_Atoi s w1 hs (hL.later (hw1.base (by simp)))).mono fun e w2 ⟨n, ev, b, h1, h2, h3⟩ => ⟨_, h1, h2, n, ev, b, rfl, h3⟩) ?_
  intro v7 wa7 wb7 hm7 hl7 hR7
  obtain ⟨n, ev, b0, rfl, hi11, h1, h2⟩ := hR7
  refine x_val rfl rfl rfl (v_move rfl) ?_
  refine x_val rfl rfl rfl (v_extract rfl rfl) ?_
  refine x_val rfl rfl rfl (v_extract rfl rfl) ?_
  refine x_val rfl rfl rfl (v_assign rfl) ?_
  refine x_val rfl rfl rfl (v_assign rfl) ?_
  refine x_end ?_
  refine t_norm ?_
  refine w_seq ?_
  refine w_seq ?_
  refine rg_text ?_
  refine x_val rfl rfl rfl (v_move rfl) ?_
  refine x_bool rfl rfl rfl (v_ine Tryz.underlying84 rfl rfl hi11) ?_
  intro b11 hb11
  refine x_val rfl rfl rfl (v_move rfl) ?_
  refine x_if [] rfl rfl rfl rfl rfl (fun hg => by obtain ⟨hg0, _⟩ := hg; subst hg0; (try simp only [List.cons_append, List.nil_append, gvl_nil, gvl_t, gvl_f]); exact v_move rfl) ?_
  refine x_if [] rfl rfl rfl rfl rfl (fun hg => by obtain ⟨hg0, _⟩ := hg; subst hg0; (try simp only [List.cons_append, List.nil_append, gvl_nil, gvl_t, gvl_f]); exact v_len_str Tryz.underlying9 rfl) ?_
  refine x_ifb [] rfl rfl rfl rfl rfl (fun hg => by obtain ⟨hg0, _⟩ := hg; subst hg0; (try simp only [List.cons_append, List.nil_append, gvl_nil, gvl_t, gvl_f]); exact v_gtr rfl rfl) ?_
  intro b15 hb15
  refine x_bool rfl rfl rfl (v_or rfl rfl) ?_
  intro b16 hb16
  refine x_end ?_
  refine t_norm ?_
  refine w_cond rfl (fun hc16 => ?_) (fun hc16 => ?_)
  · have hneg : readP s = -1 := by
      unfold readP
      split
      · rename_i v hv
        rw [if_neg (fun h18 => ?_)]
        rw [hb16, hb15] at hc16
        rcases Bool.or_eq_true _ _ ▸ hc16 with h | h
        · exact h2 (hb11.symm.trans h) v hv
        · have := of_decide_eq_true h; omega
      · rfl
    refine w_seq ?_
    refine rg_text ?_
    refine x_val rfl rfl rfl (v_assign rfl) ?_
    refine x_end ?_
    refine t_norm ?_
    refine w_ret ?_
    refine t_ret ?_
    refine ret1 rfl rfl (fun w' hm => ⟨?_, hm.base (by simp)⟩)
    rw [hneg]
  · have hyes : readP s = n := by
      rw [hb16, hb15] at hc16
      obtain ⟨k1, k2⟩ := Bool.or_eq_false_iff.1 hc16
      have k3 := of_decide_eq_false k2
      unfold readP
      rw [h1 (hb11.symm.trans k1)]
      dsimp only
      rw [if_pos (by omega)]
    refine w_skip ?_
    refine t_norm ?_
    refine w_seq ?_
    refine rg_text ?_
    refine x_val rfl rfl rfl (v_move rfl) ?_
    refine x_val rfl rfl rfl (v_assign rfl) ?_
    refine x_end ?_
    refine t_norm ?_
    refine w_ret ?_
    refine ret1 rfl rfl (fun w' hm => ⟨?_, hm.base (by simp)⟩)
    rw [hyes]; rfl
set_option maxRecDepth 100000 in
theorem c_erec (s : ByteArray) (w : World) (hs : s.size ≤ 2000000000) (hL : LD w) :
    Calls Tryz.prog 41 #[.string s] w fun e w' => e = .returned (.agg #[.int .i64 (recS s).1, .int .i64 (recS s).2]) ∧ Later w w' := by
  refine enter (vs := [.string s]) Tryz.func41 rfl Tryz.ntmps41 rfl ?_
  refine w_seq ?_
  refine rg_text ?_
  refine x_alloc rfl rfl rfl zr23 ?_
  intro p2
  refine x_end ?_
  refine t_norm ?_
  refine w_seq ?_
  refine rg_text ?_
  refine x_val rfl rfl rfl (v_move rfl) ?_
  refine x_callv rfl rfl rfl Tryz.func63 (by kernel_rfl) rfl (fun w1 hw1 => c_Cut s w1 hs (hL.later (hw1.base (by simp)))) ?_
  refine x_val rfl rfl rfl (v_move rfl) ?_
  refine x_val rfl rfl rfl (v_extract rfl rfl) ?_
  refine x_val rfl rfl rfl (v_extract rfl rfl) ?_
  refine x_bool rfl rfl rfl (v_extract rfl rfl) ?_
  intro b11 hb11
  refine x_val rfl rfl rfl (v_assign rfl) ?_
  refine x_val rfl rfl rfl (v_assign rfl) ?_
  refine x_val rfl rfl rfl (v_assign rfl) ?_
  refine x_end ?_
  refine t_norm ?_
  refine w_seq ?_
  refine rg_text ?_
  refine x_val rfl rfl rfl (v_move rfl) ?_
  refine x_callv rfl rfl rfl Tryz.func39 (by kernel_rfl) rfl (fun w1 hw1 => c_read (cutD s).1 w1 (by have := (cutD_sz s).1; omega) (hL.later (hw1.base (by simp)))) ?_
  refine x_val rfl rfl rfl (v_move rfl) ?_
  refine x_callv rfl rfl rfl Tryz.func39 (by kernel_rfl) rfl (fun w1 hw1 => c_read (cutD s).2.1 w1 (by have := (cutD_sz s).2; omega) (hL.later (hw1.base (by simp)))) ?_
  refine x_val rfl rfl rfl (v_buildL (places := [(0, 1), (1, 1)]) Tryz.underlying23 zr23 (by kernel_rfl) rfl rfl) ?_
  refine x_store0 [] rfl rfl rfl rfl sz23 rfl rfl ?_
  refine x_end ?_
  refine t_norm ?_
  refine w_ret ?_
  refine retc (cs := #[.int .i64 (recS s).1, .int .i64 (recS s).2]) rfl rfl (.head _) Tryz.underlying23 rfl sz23 (fun w' hm => ⟨rfl, hm.base (by simp)⟩)
set_option maxRecDepth 100000 in
theorem c_SEq {u v : Value} {xs ys : List ByteArray} {D1 D2 : Nat → Prop} (w : World) (h1s : sliceRd tyStr D1 w u xs) (h2s : sliceRd tyStr D2 w v ys) :
    Calls Tryz.prog 67 #[u, v] w fun e w' => e = .returned (.bool (decide (xs = ys))) ∧ Later w w' := by
  obtain ⟨A1, c1, rfl, hl1, hm1, _⟩ := id h1s
  obtain ⟨A2, c2, rfl, hl2, hm2, _⟩ := id h2s
  refine enter (vs := [.slice A1 xs.length c1, .slice A2 ys.length c2]) Tryz.func67 rfl Tryz.ntmps67 rfl ?_
  refine w_seq ?_
  refine rg_text ?_
  refine x_val rfl rfl rfl (v_assign rfl) ?_
  refine x_end ?_
  refine t_norm ?_
  refine w_seq ?_
  refine w_seq ?_
  refine rg_text ?_
  refine x_val rfl rfl rfl (v_move rfl) ?_
  refine x_val rfl rfl rfl (v_len_slice Tryz.underlying54 rfl) ?_
  refine x_val rfl rfl rfl (v_move rfl) ?_
  refine x_val rfl rfl rfl (v_len_slice Tryz.underlying54 rfl) ?_
  refine x_bool rfl rfl rfl (v_neq rfl rfl) ?_
  intro b10 hb10
  refine x_end ?_
  refine t_norm ?_
  refine w_cond rfl (fun hc10 => ?_) (fun hc10 => ?_)
  · simp only [hb10, decide_eq_true_eq, decide_eq_false_iff_not, Bool.and_eq_true, Bool.or_eq_true, Bool.and_eq_false_iff, Bool.or_eq_false_iff, Bool.not_eq_true', Bool.not_eq_false', ne_eq, Decidable.not_not] at hc10
    have hne : xs ≠ ys := fun h => by rw [h] at hc10; exact hc10 rfl
    refine w_seq ?_
    refine rg_text ?_
    refine x_val rfl rfl rfl (v_assign rfl) ?_
    refine x_end ?_
    refine t_norm ?_
    refine w_ret ?_
    refine t_ret ?_
    refine ret1 rfl rfl (fun w' hm => ⟨?_, hm.base (by simp)⟩)
    rw [decide_eq_false (hne)]
  · simp only [hb10, decide_eq_true_eq, decide_eq_false_iff_not, Bool.and_eq_true, Bool.or_eq_true, Bool.and_eq_false_iff, Bool.or_eq_false_iff, Bool.not_eq_true', Bool.not_eq_false', ne_eq, Decidable.not_not] at hc10
    have hlen : xs.length = ys.length := by omega
    refine w_skip ?_
    refine t_norm ?_
    refine w_seq ?_
    refine w_seq ?_
    refine rg_text ?_
    refine x_val rfl rfl rfl (v_move rfl) ?_
    refine x_val rfl rfl rfl (v_len_slice Tryz.underlying54 rfl) ?_
    refine x_val rfl rfl rfl (v_move rfl) ?_
    refine x_end ?_
    refine t_norm ?_
    refine w_block ?_
    refine w_loop (σ := Nat) (fun x => x ≤ xs.length ∧ xs.take x = ys.take x) (fun x => [(0, Value.slice A1 xs.length c1), (1, Value.slice A2 ys.length c2), (11, Value.slice A1 xs.length c1), (12, Value.int .i64 (xs.length : Nat)), (13, Value.int .i64 (x : Nat))]) (fun x => []) (fun x => [(w, fun _ => True)]) (fun x => xs.length - x) (0) (⟨Nat.zero_le _, rfl⟩) (l_start (by repeat (first | exact Sub.nil | refine Sub.cons rfl ?_)) (fun _ h => h)) ?_
    rintro k ⟨hk, ht⟩
    refine w_state ([(0, Value.slice A1 xs.length c1), (1, Value.slice A2 ys.length c2), (11, Value.slice A1 xs.length c1), (12, Value.int .i64 (xs.length : Nat)), (13, Value.int .i64 (k : Nat))]) ([]) ([(w, fun _ => True)]) ?_
    refine w_seq ?_
    refine rg_text ?_
    refine x_bool rfl rfl rfl (v_lss rfl rfl) ?_
    intro b14 hb14
    refine x_end ?_
    refine t_norm ?_
    refine w_seq ?_
    refine w_cond rfl (fun hc14 => ?_) (fun hc14 => ?_)
    · simp only [hb14, decide_eq_true_eq, decide_eq_false_iff_not, Bool.and_eq_true, Bool.or_eq_true, Bool.and_eq_false_iff, Bool.or_eq_false_iff, Bool.not_eq_true', Bool.not_eq_false', ne_eq, Decidable.not_not] at hc14
      have h1 : k < xs.length := by omega
      have h2 : k < ys.length := by omega
      obtain ⟨b1, o1, hA1, _, t1, _⟩ := s_at h1s h1
      obtain ⟨b2, o2, hA2, _, t2, _⟩ := s_at h2s h2
      refine w_skip ?_
      refine t_norm ?_
      refine w_seq ?_
      refine w_block ?_
      refine w_seq ?_
      refine rg_text ?_
      refine x_val rfl rfl rfl (v_move rfl) ?_
      refine x_val rfl rfl rfl (v_assign rfl) ?_
      refine x_end ?_
      refine t_norm ?_
      refine w_seq ?_
      refine rg_draw 9 [(true, 0), (true, 1), (true, 2), (true, 3), (true, 4), (true, 5), (true, 6), (true, 7), (true, 8)] (by kernel_rfl) (by kernel_rfl) ?_
      refine x_val rfl rfl rfl (v_move rfl) ?_
      refine x_val rfl rfl rfl (v_move rfl) ?_
      refine x_val rfl rfl rfl (v_indexAddr Tryz.underlying54 sz9 (congrArg (fun A => some (Value.slice A xs.length c1)) hA1) rfl (by first | omega | (dsimp only; omega)) rfl) ?_
      refine x_val rfl rfl rfl (v_load Tryz.underlying9 rfl rfl (at_ro (.head _) trivial (by rw [Nat.mul_one]; exact t1))) ?_
      refine x_val rfl rfl rfl (v_move rfl) ?_
      refine x_val rfl rfl rfl (v_move rfl) ?_
      refine x_val rfl rfl rfl (v_indexAddr Tryz.underlying54 sz9 (congrArg (fun A => some (Value.slice A ys.length c2)) hA2) rfl (by first | omega | (dsimp only; omega)) rfl) ?_
      refine x_val rfl rfl rfl (v_load Tryz.underlying9 rfl rfl (at_ro (.head _) trivial (by rw [Nat.mul_one]; exact t2))) ?_
      refine x_bool rfl rfl rfl (v_sneq rfl rfl) ?_
      intro b24 hb24
      refine x_end ?_
      refine t_norm ?_
      refine w_cond rfl (fun hc24 => ?_) (fun hc24 => ?_)
      · simp only [hb24, decide_eq_true_eq, decide_eq_false_iff_not, Bool.and_eq_true, Bool.or_eq_true, Bool.and_eq_false_iff, Bool.or_eq_false_iff, Bool.not_eq_true', Bool.not_eq_false', ne_eq, Decidable.not_not] at hc24
        have hne : xs ≠ ys := ne_at h1 h2 hc24
        refine w_seq ?_
        refine rg_text ?_
        refine x_val rfl rfl rfl (v_assign rfl) ?_
        refine x_end ?_
        refine t_norm ?_
        refine w_ret ?_
        refine b_ret ?_
        refine t_ret ?_
        refine t_ret ?_
        refine b_ret ?_
        refine t_ret ?_
        refine ret1 rfl rfl (fun w' hm => ⟨?_, hm.base (by simp)⟩)
        rw [decide_eq_false (hne)]
      · simp only [hb24, decide_eq_true_eq, decide_eq_false_iff_not, Bool.and_eq_true, Bool.or_eq_true, Bool.and_eq_false_iff, Bool.or_eq_false_iff, Bool.not_eq_true', Bool.not_eq_false', ne_eq, Decidable.not_not] at hc24
        refine w_skip ?_
        refine b_norm ?_
        refine t_norm ?_
        refine rg_text ?_
        refine x_val rfl rfl rfl (v_addi rfl rfl rfl (by first | omega | (dsimp only; omega))) ?_
        refine x_val rfl rfl rfl (v_move rfl) ?_
        refine x_end ?_
        exact l_norm (k + 1) ⟨by omega, take_eq_succ h1 h2 ht hc24⟩ (by omega) (by repeat (first | exact Sub.nil | refine Sub.cons rfl ?_)) (fun _ h => h)
    · simp only [hb14, decide_eq_true_eq, decide_eq_false_iff_not, Bool.and_eq_true, Bool.or_eq_true, Bool.and_eq_false_iff, Bool.or_eq_false_iff, Bool.not_eq_true', Bool.not_eq_false', ne_eq, Decidable.not_not] at hc14
      obtain rfl : k = xs.length := by omega
      refine w_exit ?_
      refine t_exit ?_
      refine t_exit ?_
      refine b_hit ?_
      refine t_norm ?_
      refine w_seq ?_
      refine rg_text ?_
      refine x_val rfl rfl rfl (v_assign rfl) ?_
      refine x_end ?_
      refine t_norm ?_
      refine w_ret ?_
      refine ret1 rfl rfl (fun w' hm => ⟨?_, hm.base (by simp)⟩)
      rw [decide_eq_true (take_all hlen ht)]
set_option maxRecDepth 100000 in
theorem c_EF2 {u v : Value} {xs ys : List (List ByteArray)} {D1 D2 : Nat → Prop} (w : World) (h1s : sliceRd (tySlice tyStr) D1 w u xs) (h2s : sliceRd (tySlice tyStr) D2 w v ys) :
    Calls Tryz.prog 66 #[u, v, .func (.func 67) #[] #[]] w fun e w' => e = .returned (.bool (decide (xs = ys))) ∧ Later w w' := by
  obtain ⟨A1, c1, rfl, hl1, hm1, _⟩ := id h1s
  obtain ⟨A2, c2, rfl, hl2, hm2, _⟩ := id h2s
  refine enter (vs := [.slice A1 xs.length c1, .slice A2 ys.length c2, .func (.func 67) #[] #[]]) Tryz.func66 rfl Tryz.ntmps66 rfl ?_
  refine w_seq ?_
  refine rg_text ?_
  refine x_val rfl rfl rfl (v_assign rfl) ?_
  refine x_end ?_
  refine t_norm ?_
  refine w_seq ?_
  refine w_seq ?_
  refine rg_text ?_
  refine x_val rfl rfl rfl (v_move rfl) ?_
  refine x_val rfl rfl rfl (v_len_slice Tryz.underlying47 rfl) ?_
  refine x_val rfl rfl rfl (v_move rfl) ?_
  refine x_val rfl rfl rfl (v_len_slice Tryz.underlying47 rfl) ?_
  refine x_bool rfl rfl rfl (v_neq rfl rfl) ?_
  intro b14 hb14
  refine x_end ?_
  refine t_norm ?_
  refine w_cond rfl (fun hc14 => ?_) (fun hc14 => ?_)
  · simp only [hb14, decide_eq_true_eq, decide_eq_false_iff_not, Bool.and_eq_true, Bool.or_eq_true, Bool.and_eq_false_iff, Bool.or_eq_false_iff, Bool.not_eq_true', Bool.not_eq_false', ne_eq, Decidable.not_not] at hc14
    have hne : xs ≠ ys := fun h => by rw [h] at hc14; exact hc14 rfl
    refine w_seq ?_
    refine rg_text ?_
    refine x_val rfl rfl rfl (v_assign rfl) ?_
    refine x_end ?_
    refine t_norm ?_
    refine w_ret ?_
    refine t_ret ?_
    refine ret1 rfl rfl (fun w' hm => ⟨?_, hm.base (by simp)⟩)
    rw [decide_eq_false (hne)]
  · simp only [hb14, decide_eq_true_eq, decide_eq_false_iff_not, Bool.and_eq_true, Bool.or_eq_true, Bool.and_eq_false_iff, Bool.or_eq_false_iff, Bool.not_eq_true', Bool.not_eq_false', ne_eq, Decidable.not_not] at hc14
    have hlen : xs.length = ys.length := by omega
    refine w_skip ?_
    refine t_norm ?_
    refine w_seq ?_
    refine w_seq ?_
    refine rg_text ?_
    refine x_val rfl rfl rfl (v_move rfl) ?_
    refine x_val rfl rfl rfl (v_len_slice Tryz.underlying47 rfl) ?_
    refine x_val rfl rfl rfl (v_move rfl) ?_
    refine x_end ?_
    refine t_norm ?_
    refine w_block ?_
    refine w_loop (σ := Nat) (fun x => x ≤ xs.length ∧ xs.take x = ys.take x) (fun x => [(0, Value.slice A1 xs.length c1), (1, Value.slice A2 ys.length c2), (2, Value.func (.func 67) #[] #[]), (15, Value.slice A1 xs.length c1), (16, Value.int .i64 (xs.length : Nat)), (17, Value.int .i64 (x : Nat))]) (fun x => []) (fun x => [(w, fun _ => True)]) (fun x => xs.length - x) (0) (⟨Nat.zero_le _, rfl⟩) (l_start (by repeat (first | exact Sub.nil | refine Sub.cons rfl ?_)) (fun _ h => h)) ?_
    rintro k ⟨hk, ht⟩
    refine w_state ([(0, Value.slice A1 xs.length c1), (1, Value.slice A2 ys.length c2), (2, Value.func (.func 67) #[] #[]), (15, Value.slice A1 xs.length c1), (16, Value.int .i64 (xs.length : Nat)), (17, Value.int .i64 (k : Nat))]) ([]) ([(w, fun _ => True)]) ?_
    refine w_seq ?_
    refine rg_text ?_
    refine x_bool rfl rfl rfl (v_lss rfl rfl) ?_
    intro b18 hb18
    refine x_end ?_
    refine t_norm ?_
    refine w_seq ?_
    refine w_cond rfl (fun hc18 => ?_) (fun hc18 => ?_)
    · simp only [hb18, decide_eq_true_eq, decide_eq_false_iff_not, Bool.and_eq_true, Bool.or_eq_true, Bool.and_eq_false_iff, Bool.or_eq_false_iff, Bool.not_eq_true', Bool.not_eq_false', ne_eq, Decidable.not_not] at hc18
      have h1 : k < xs.length := by omega
      have h2 : k < ys.length := by omega
      obtain ⟨b1, o1, u1, hA1, _, t1, r1⟩ := sl_at h1s h1
      obtain ⟨b2, o2, u2, hA2, _, t2, r2⟩ := sl_at h2s h2
      obtain ⟨B1, d1, rfl, _⟩ := id r1
      obtain ⟨B2, d2, rfl, _⟩ := id r2
      refine w_skip ?_
      refine t_norm ?_
      refine w_seq ?_
      refine w_block ?_
      refine w_seq ?_
      refine rg_text ?_
      refine x_val rfl rfl rfl (v_move rfl) ?_
      refine x_val rfl rfl rfl (v_indexAddr Tryz.underlying47 sz54 (congrArg (fun A => some (Value.slice A xs.length c1)) hA1) rfl (by first | omega | (dsimp only; omega)) rfl) ?_
      refine x_val rfl rfl rfl (v_load Tryz.underlying54 rfl rfl (at_ro (.head _) trivial (by rw [Nat.mul_one]; exact t1))) ?_
      refine x_val rfl rfl rfl (v_assign rfl) ?_
      refine x_val rfl rfl rfl (v_assign rfl) ?_
      refine x_end ?_
      refine t_norm ?_
      refine w_seq ?_
      refine rg_text ?_
      refine x_val rfl rfl rfl (v_move rfl) ?_
      refine x_val rfl rfl rfl (v_move rfl) ?_
      refine x_val rfl rfl rfl (v_indexAddr Tryz.underlying47 sz54 (congrArg (fun A => some (Value.slice A ys.length c2)) hA2) rfl (by first | omega | (dsimp only; omega)) rfl) ?_
      refine x_val rfl rfl rfl (v_load Tryz.underlying54 rfl rfl (at_ro (.head _) trivial (by rw [Nat.mul_one]; exact t2))) ?_
      refine x_val rfl rfl rfl (v_assign rfl) ?_
      refine x_end ?_
      refine t_norm ?_
      refine w_seq ?_
      refine rg_text ?_
      refine x_val rfl rfl rfl (v_move rfl) ?_
      refine x_val rfl rfl rfl (v_move rfl) ?_
      refine x_val rfl rfl rfl (v_move rfl) ?_
      refine x_clb rfl rfl rfl rfl Tryz.func67 (by kernel_rfl) rfl (fun w1 hw1 => by exact calls_clp (c_SEq (xs := xs[k]) (ys := ys[k]) w1 (r1.keep (Kept.later (hw1.base (by simp)))) (r2.keep (Kept.later (hw1.base (by simp)))))) ?_
      intro b29 hb29
      refine x_bool rfl rfl rfl (v_not rfl) ?_
      intro b30 hb30
      refine x_end ?_
      refine t_norm ?_
      refine w_cond rfl (fun hc30 => ?_) (fun hc30 => ?_)
      · have hne : xs ≠ ys := ne_at h1 h2 (fun h => by rw [hb30, hb29, decide_eq_true h] at hc30; cases hc30)
        refine w_seq ?_
        refine rg_text ?_
        refine x_val rfl rfl rfl (v_assign rfl) ?_
        refine x_end ?_
        refine t_norm ?_
        refine w_ret ?_
        refine b_ret ?_
        refine t_ret ?_
        refine t_ret ?_
        refine b_ret ?_
        refine t_ret ?_
        refine ret1 rfl rfl (fun w' hm => ⟨?_, hm.base (by simp)⟩)
        rw [decide_eq_false (hne)]
      · have heq : xs[k] = ys[k] := by
          rw [hb30, hb29] at hc30
          exact of_decide_eq_true (by simpa using hc30)
        refine w_skip ?_
        refine b_norm ?_
        refine t_norm ?_
        refine rg_text ?_
        refine x_val rfl rfl rfl (v_addi rfl rfl rfl (by first | omega | (dsimp only; omega))) ?_
        refine x_val rfl rfl rfl (v_move rfl) ?_
        refine x_end ?_
        exact l_norm (k + 1) ⟨by omega, take_eq_succ h1 h2 ht heq⟩ (by omega) (by repeat (first | exact Sub.nil | refine Sub.cons rfl ?_)) (fun _ h => h)
    · simp only [hb18, decide_eq_true_eq, decide_eq_false_iff_not, Bool.and_eq_true, Bool.or_eq_true, Bool.and_eq_false_iff, Bool.or_eq_false_iff, Bool.not_eq_true', Bool.not_eq_false', ne_eq, Decidable.not_not] at hc18
      obtain rfl : k = xs.length := by omega
      refine w_exit ?_
      refine t_exit ?_
      refine t_exit ?_
      refine b_hit ?_
      refine t_norm ?_
      refine w_seq ?_
      refine rg_text ?_
      refine x_val rfl rfl rfl (v_assign rfl) ?_
      refine x_end ?_
      refine t_norm ?_
      refine w_ret ?_
      refine ret1 rfl rfl (fun w' hm => ⟨?_, hm.base (by simp)⟩)
      rw [decide_eq_true (take_all hlen ht)]
set_option maxRecDepth 100000 in
theorem c_same1 {u v : Value} {x y : Seg} {D1 D2 : Nat → Prop} (w : World) (h1s : sliceRd (tySlice tyStr) D1 w u x.els) (h2s : sliceRd (tySlice tyStr) D2 w v y.els) :
    Calls Tryz.prog 65 #[.agg #[.string x.tag, u], .agg #[.string y.tag, v]] w fun e w' => e = .returned (.bool (decide (x = y))) ∧ Later w w' := by
  refine enter (vs := [.agg #[.string x.tag, u], .agg #[.string y.tag, v]]) Tryz.func65 rfl Tryz.ntmps65 rfl ?_
  refine w_seq ?_
  refine rg_text ?_
  refine x_box rfl rfl rfl rfl ?_
  intro p2
  refine x_box rfl rfl rfl rfl ?_
  intro p3
  refine x_val rfl rfl rfl (v_assign rfl) ?_
  refine x_end ?_
  refine t_norm ?_
  refine w_seq ?_
  refine rg_text ?_
  refine x_val rfl rfl rfl (v_fieldAddr (off' := 0) Tryz.underlying49 rfl sz9 (by decide) rfl rfl) ?_
  refine x_val rfl rfl rfl (v_load Tryz.underlying9 rfl rfl (at_ownL (vs := [Value.string x.tag, u]) (.tail _ (.head _)) rfl)) ?_
  refine x_val rfl rfl rfl (v_fieldAddr (off' := 0) Tryz.underlying49 rfl sz9 (by decide) rfl rfl) ?_
  refine x_val rfl rfl rfl (v_load Tryz.underlying9 rfl rfl (at_ownL (vs := [Value.string y.tag, v]) (.head _) rfl)) ?_
  refine x_bool rfl rfl rfl (v_seql rfl rfl) ?_
  intro b9 hb9
  refine x_val rfl rfl rfl (v_move rfl) ?_
  refine x_if [] rfl rfl rfl rfl rfl (fun hg => by obtain ⟨hg0, _⟩ := hg; subst hg0; (try simp only [List.cons_append, List.nil_append, gvl_nil, gvl_t, gvl_f]); exact v_fieldAddr (off' := 1) Tryz.underlying49 rfl sz47 (by decide) rfl rfl) ?_
  refine x_if [] rfl rfl rfl rfl rfl (fun hg => by obtain ⟨hg0, _⟩ := hg; subst hg0; (try simp only [List.cons_append, List.nil_append, gvl_nil, gvl_t, gvl_f]); exact v_load Tryz.underlying47 rfl rfl (at_ownL (vs := [Value.string x.tag, u]) (.tail _ (.head _)) rfl)) ?_
  refine x_if [] rfl rfl rfl rfl rfl (fun hg => by obtain ⟨hg0, _⟩ := hg; subst hg0; (try simp only [List.cons_append, List.nil_append, gvl_nil, gvl_t, gvl_f]); exact v_fieldAddr (off' := 1) Tryz.underlying49 rfl sz47 (by decide) rfl rfl) ?_
  refine x_if [] rfl rfl rfl rfl rfl (fun hg => by obtain ⟨hg0, _⟩ := hg; subst hg0; (try simp only [List.cons_append, List.nil_append, gvl_nil, gvl_t, gvl_f]); exact v_load Tryz.underlying47 rfl rfl (at_ownL (vs := [Value.string y.tag, v]) (.head _) rfl)) ?_
  refine x_call_ifb [] rfl rfl rfl rfl rfl Tryz.func66 (by kernel_rfl) (fun hg => by obtain ⟨hg0, _⟩ := hg; subst hg0; (try simp only [List.cons_append, List.nil_append, gvl_nil, gvl_t, gvl_f]); refine ⟨_, rfl, ?_⟩; exact fun w1 hw1 => c_EF2 (xs := x.els) (ys := y.els) w1 (h1s.keep (Kept.later (hw1.base (by simp)))) (h2s.keep (Kept.later (hw1.base (by simp))))) ?_
  intro b15 hb15
  refine x_bool rfl rfl rfl (v_and rfl rfl) ?_
  intro b16 hb16
  refine x_val rfl rfl rfl (v_assign rfl) ?_
  refine x_end ?_
  refine t_norm ?_
  refine w_ret ?_
  refine ret1 rfl rfl (fun w' hm => ⟨?_, hm.base (by simp)⟩)
  congr 3
  rw [hb16, hb15, hb9, Bool.eq_iff_iff]
  simp only [Bool.and_eq_true, decide_eq_true_eq]
  constructor
  · rintro ⟨h1, h2⟩; exact seg_ext h1 h2
  · rintro rfl; exact ⟨rfl, rfl⟩
set_option maxRecDepth 100000 in
theorem c_EF1 {u v : Value} {xs ys : List Seg} {D1 D2 : Nat → Prop} (w : World) (h1s : sliceRd tySeg D1 w u xs) (h2s : sliceRd tySeg D2 w v ys) :
    Calls Tryz.prog 64 #[u, v, .func (.func 65) #[] #[]] w fun e w' => e = .returned (.bool (decide (xs = ys))) ∧ Later w w' := by
  obtain ⟨A1, c1, rfl, hl1, hm1, _⟩ := id h1s
  obtain ⟨A2, c2, rfl, hl2, hm2, _⟩ := id h2s
  refine enter (vs := [.slice A1 xs.length c1, .slice A2 ys.length c2, .func (.func 65) #[] #[]]) Tryz.func64 rfl Tryz.ntmps64 rfl ?_
  refine w_seq ?_
  refine rg_text ?_
  refine x_val rfl rfl rfl (v_assign rfl) ?_
  refine x_end ?_
  refine t_norm ?_
  refine w_seq ?_
  refine w_seq ?_
  refine rg_text ?_
  refine x_val rfl rfl rfl (v_move rfl) ?_
  refine x_val rfl rfl rfl (v_len_slice Tryz.underlying29 rfl) ?_
  refine x_val rfl rfl rfl (v_move rfl) ?_
  refine x_val rfl rfl rfl (v_len_slice Tryz.underlying29 rfl) ?_
  refine x_bool rfl rfl rfl (v_neq rfl rfl) ?_
  intro b14 hb14
  refine x_end ?_
  refine t_norm ?_
  refine w_cond rfl (fun hc14 => ?_) (fun hc14 => ?_)
  · simp only [hb14, decide_eq_true_eq, decide_eq_false_iff_not, Bool.and_eq_true, Bool.or_eq_true, Bool.and_eq_false_iff, Bool.or_eq_false_iff, Bool.not_eq_true', Bool.not_eq_false', ne_eq, Decidable.not_not] at hc14
    have hne : xs ≠ ys := fun h => by rw [h] at hc14; exact hc14 rfl
    refine w_seq ?_
    refine rg_text ?_
    refine x_val rfl rfl rfl (v_assign rfl) ?_
    refine x_end ?_
    refine t_norm ?_
    refine w_ret ?_
    refine t_ret ?_
    refine ret1 rfl rfl (fun w' hm => ⟨?_, hm.base (by simp)⟩)
    rw [decide_eq_false (hne)]
  · simp only [hb14, decide_eq_true_eq, decide_eq_false_iff_not, Bool.and_eq_true, Bool.or_eq_true, Bool.and_eq_false_iff, Bool.or_eq_false_iff, Bool.not_eq_true', Bool.not_eq_false', ne_eq, Decidable.not_not] at hc14
    have hlen : xs.length = ys.length := by omega
    refine w_skip ?_
    refine t_norm ?_
    refine w_seq ?_
    refine w_seq ?_
    refine rg_text ?_
    refine x_val rfl rfl rfl (v_move rfl) ?_
    refine x_val rfl rfl rfl (v_len_slice Tryz.underlying29 rfl) ?_
    refine x_val rfl rfl rfl (v_move rfl) ?_
    refine x_end ?_
    refine t_norm ?_
    refine w_block ?_
    refine w_loop (σ := Nat) (fun x => x ≤ xs.length ∧ xs.take x = ys.take x) (fun x => [(0, Value.slice A1 xs.length c1), (1, Value.slice A2 ys.length c2), (2, Value.func (.func 65) #[] #[]), (15, Value.slice A1 xs.length c1), (16, Value.int .i64 (xs.length : Nat)), (17, Value.int .i64 (x : Nat))]) (fun x => []) (fun x => [(w, fun _ => True)]) (fun x => xs.length - x) (0) (⟨Nat.zero_le _, rfl⟩) (l_start (by repeat (first | exact Sub.nil | refine Sub.cons rfl ?_)) (fun _ h => h)) ?_
    rintro k ⟨hk, ht⟩
    refine w_state ([(0, Value.slice A1 xs.length c1), (1, Value.slice A2 ys.length c2), (2, Value.func (.func 65) #[] #[]), (15, Value.slice A1 xs.length c1), (16, Value.int .i64 (xs.length : Nat)), (17, Value.int .i64 (k : Nat))]) ([]) ([(w, fun _ => True)]) ?_
    refine w_seq ?_
    refine rg_text ?_
    refine x_bool rfl rfl rfl (v_lss rfl rfl) ?_
    intro b18 hb18
    refine x_end ?_
    refine t_norm ?_
    refine w_seq ?_
    refine w_cond rfl (fun hc18 => ?_) (fun hc18 => ?_)
    · simp only [hb18, decide_eq_true_eq, decide_eq_false_iff_not, Bool.and_eq_true, Bool.or_eq_true, Bool.and_eq_false_iff, Bool.or_eq_false_iff, Bool.not_eq_true', Bool.not_eq_false', ne_eq, Decidable.not_not] at hc18
      have h1 : k < xs.length := by omega
      have h2 : k < ys.length := by omega
      obtain ⟨b1, o1, u1, hA1, _, t1, v1, _, r1⟩ := seg_at h1s h1
      obtain ⟨b2, o2, u2, hA2, _, t2, v2, _, r2⟩ := seg_at h2s h2
      obtain ⟨B1, d1, rfl, _⟩ := id r1
      obtain ⟨B2, d2, rfl, _⟩ := id r2
      refine w_skip ?_
      refine t_norm ?_
      refine w_seq ?_
      refine w_block ?_
      refine w_seq ?_
      refine rg_text ?_
      refine x_val rfl rfl rfl (v_move rfl) ?_
      refine x_val rfl rfl rfl (v_indexAddr Tryz.underlying29 sz49 (congrArg (fun A => some (Value.slice A xs.length c1)) hA1) rfl (by first | omega | (dsimp only; omega)) rfl) ?_
      refine x_val rfl rfl rfl (v_loadN (vs := [Value.string xs[k].tag, .slice B1 xs[k].els.length d1]) Tryz.underlying49 rfl sz49 rfl (fun i hi => by match i, hi with | 0, _ => exact at_ro (.head _) trivial t1 | 1, _ => exact at_ro (.head _) trivial v1)) ?_
      refine x_alloc rfl rfl rfl zr49 ?_
      intro p8
      refine x_val rfl rfl rfl (v_assign rfl) ?_
      refine x_store0 [] rfl rfl rfl rfl sz49 rfl rfl ?_
      refine x_end ?_
      refine t_norm ?_
      refine w_seq ?_
      refine rg_text ?_
      refine x_val rfl rfl rfl (v_move rfl) ?_
      refine x_val rfl rfl rfl (v_move rfl) ?_
      refine x_val rfl rfl rfl (v_indexAddr Tryz.underlying29 sz49 (congrArg (fun A => some (Value.slice A ys.length c2)) hA2) rfl (by first | omega | (dsimp only; omega)) rfl) ?_
      refine x_val rfl rfl rfl (v_loadN (vs := [Value.string ys[k].tag, .slice B2 ys[k].els.length d2]) Tryz.underlying49 rfl sz49 rfl (fun i hi => by match i, hi with | 0, _ => exact at_ro (.head _) trivial t2 | 1, _ => exact at_ro (.head _) trivial v2)) ?_
      refine x_alloc rfl rfl rfl zr49 ?_
      intro p9
      refine x_store0 [] rfl rfl rfl rfl sz49 rfl rfl ?_
      refine x_end ?_
      refine t_norm ?_
      refine w_seq ?_
      refine rg_text ?_
      refine x_val rfl rfl rfl (v_move rfl) ?_
      refine x_val rfl rfl rfl (v_load_blk (e := 49) (fz := (0, 0)) (cs := [Value.string xs[k].tag, .slice B1 xs[k].els.length d1].toArray) Tryz.underlying49 rfl rfl (.tail _ (.head _)) sz49) ?_
      refine x_val rfl rfl rfl (v_load_blk (e := 49) (fz := (0, 0)) (cs := [Value.string ys[k].tag, .slice B2 ys[k].els.length d2].toArray) Tryz.underlying49 rfl rfl (.head _) sz49) ?_
      refine x_clb rfl rfl rfl rfl Tryz.func65 (by kernel_rfl) rfl (fun w1 hw1 => by exact calls_clp (c_same1 (x := xs[k]) (y := ys[k]) w1 (r1.keep (Kept.later (hw1.base (by simp)))) (r2.keep (Kept.later (hw1.base (by simp)))))) ?_
      intro b29 hb29
      refine x_bool rfl rfl rfl (v_not rfl) ?_
      intro b30 hb30
      refine x_end ?_
      refine t_norm ?_
      refine w_cond rfl (fun hc30 => ?_) (fun hc30 => ?_)
      · have hne : xs ≠ ys := ne_at h1 h2 (fun h => by rw [hb30, hb29, decide_eq_true h] at hc30; cases hc30)
        refine w_seq ?_
        refine rg_text ?_
        refine x_val rfl rfl rfl (v_assign rfl) ?_
        refine x_end ?_
        refine t_norm ?_
        refine w_ret ?_
        refine b_ret ?_
        refine t_ret ?_
        refine t_ret ?_
        refine b_ret ?_
        refine t_ret ?_
        refine ret1 rfl rfl (fun w' hm => ⟨?_, hm.base (by simp)⟩)
        rw [decide_eq_false (hne)]
      · have heq : xs[k] = ys[k] := by
          rw [hb30, hb29] at hc30
          exact of_decide_eq_true (by simpa using hc30)
        refine w_skip ?_
        refine b_norm ?_
        refine t_norm ?_
        refine rg_text ?_
        refine x_val rfl rfl rfl (v_addi rfl rfl rfl (by first | omega | (dsimp only; omega))) ?_
        refine x_val rfl rfl rfl (v_move rfl) ?_
        refine x_end ?_
        exact l_norm (k + 1) ⟨by omega, take_eq_succ h1 h2 ht heq⟩ (by omega) (by repeat (first | exact Sub.nil | refine Sub.cons rfl ?_)) (fun _ h => h.less (List.nil_sublist _) (fun _ h => h))
    · simp only [hb18, decide_eq_true_eq, decide_eq_false_iff_not, Bool.and_eq_true, Bool.or_eq_true, Bool.and_eq_false_iff, Bool.or_eq_false_iff, Bool.not_eq_true', Bool.not_eq_false', ne_eq, Decidable.not_not] at hc18
      obtain rfl : k = xs.length := by omega
      refine w_exit ?_
      refine t_exit ?_
      refine t_exit ?_
      refine b_hit ?_
      refine t_norm ?_
      refine w_seq ?_
      refine rg_text ?_
      refine x_val rfl rfl rfl (v_assign rfl) ?_
      refine x_end ?_
      refine t_norm ?_
      refine w_ret ?_
      refine ret1 rfl rfl (fun w' hm => ⟨?_, hm.base (by simp)⟩)
      rw [decide_eq_true (take_all hlen ht)]
set_option maxRecDepth 100000 in
theorem c_same {u v : Value} {xs ys : List Seg} {D1 D2 : Nat → Prop} (w : World) (h1s : sliceRd tySeg D1 w u xs) (h2s : sliceRd tySeg D2 w v ys) :
    Calls Tryz.prog 42 #[u, v] w fun e w' => e = .returned (.bool (decide (xs = ys))) ∧ Later w w' := by
  refine enter (vs := [u, v]) Tryz.func42 rfl Tryz.ntmps42 rfl ?_
  refine w_seq ?_
  refine rg_text ?_
  refine x_val rfl rfl rfl (v_assign rfl) ?_
  refine x_end ?_
  refine t_norm ?_
  refine w_seq ?_
  refine rg_text ?_
  refine x_val rfl rfl rfl (v_move rfl) ?_
  refine x_val rfl rfl rfl (v_move rfl) ?_
  refine x_callb rfl rfl rfl Tryz.func64 (by kernel_rfl) rfl (fun w1 hw1 => c_EF1 w1 (h1s.keep (Kept.later (hw1.base (by simp)))) (h2s.keep (Kept.later (hw1.base (by simp))))) ?_
  intro b7 hb7
  refine x_val rfl rfl rfl (v_assign rfl) ?_
  refine x_end ?_
  refine t_norm ?_
  refine w_ret ?_
  refine ret1 rfl rfl (fun w' hm => ⟨?_, hm.base (by simp)⟩)
  rw [hb7]

end Go.Proofs.YtbamklefagghcaaGreatDoor

namespace Go.Proofs.YtbamklefagghcaaGreatDoor
open Go.RowKit Go.PK
set_option linter.unusedVariables false
set_option linter.unusedSimpArgs false

theorem atP_in {l : List Seg} (n e c : Nat) : in64 (atP l n e c).1 := by
  unfold atP
  split
  · rename_i s _
    unfold valP
    split
    · rename_i h
      have h1 := numF_lt (bl s) h.1.2.1
      have h2 : 10 ^ (bl s).length ≤ 10 ^ 9 := Nat.pow_le_pow_right (by decide) (by rw [bl_len]; exact h.2)
      have e9 : (10 : Nat) ^ 9 = 1000000000 := by decide
      unfold in64; dsimp only; omega
    · unfold in64; decide
  · unfold in64; decide
theorem valP_in {s : ByteArray} {m : Nat} (hm : m ≤ 18) : in64 (valP s m).1 := by
  unfold valP
  split
  · rename_i h
    have h1 := numF_lt (bl s) h.1.2.1
    have h2 : 10 ^ (bl s).length ≤ 10 ^ 18 := Nat.pow_le_pow_right (by decide) (by rw [bl_len]; omega)
    have e18 : (10 : Nat) ^ 18 = 1000000000000000000 := by decide
    unfold in64; dsimp only; omega
  · unfold in64; decide
theorem rrec_in64 {l : List Seg} (n : Nat) : in64 (rrec l n).1.1 ∧ in64 (rrec l n).1.2 := by
  have z : in64 (0 : Int) ∧ in64 (0 : Int) := by unfold in64; decide
  unfold rrec
  split
  · exact z
  · split
    · exact z
    · unfold rrecS
      split
      · exact ⟨valP_in (by decide), valP_in (by decide)⟩
      · exact z
theorem rdE_ok (l : List Seg) : (rdE l).ok := ⟨readP_in _, readP_in _, readP_in _, readP_in _, readP_in _, readP_in _⟩
theorem rdR_ok (l : List Seg) : (rdR l).ok := ⟨atP_in _ _ _, atP_in _ _ _, (rrec_in64 2).1, (rrec_in64 2).2, atP_in _ _ _, atP_in _ _ _⟩
theorem ord_out {v : Value} {e : Ending} {wa wb : World} {xs : List Seg} (h1 : e = .returned v) (h2 : Later wa wb) (h3 : sliceRd tySeg (fun b => wa.heap.size ≤ b) wb v xs) (h4 : xs.length = 0 → v = .slice none 0 0) :
    ∃ v, e = .returned v ∧ Later wa wb ∧ ∃ A1 c1, v = .slice A1 xs.length c1 ∧ sliceRd tySeg (fun b => wa.heap.size ≤ b) wb (.slice A1 xs.length c1) xs ∧ A1.isNone = decide (xs.length = 0) := by
  obtain ⟨A1, c1, rfl, _, _, hh⟩ := id h3
  refine ⟨_, h1, h2, A1, c1, rfl, h3, ?_⟩
  by_cases h0 : xs.length = 0
  · have h5 := h4 h0
    injection h5 with h5
    rw [h5, decide_eq_true h0]; rfl
  · obtain ⟨b, o, rfl, _⟩ := hh (by omega)
    rw [decide_eq_false h0]; rfl
set_option maxRecDepth 100000 in
theorem c_ReadOrder {v : Value} {l : List Seg} {D : Nat → Prop} (w : World) (hl : sliceRd tySeg D w v l) (hbig : bigO l) (hL : LD w) :
    Calls Tryz.prog 14 #[v] w fun e w' => e = .returned (.tuple #[.agg (rdO l).1.cells.toArray, .int .i64 (rdO l).2]) ∧ Later w w' := by
  obtain ⟨A, cp, rfl, hlc, hmx, _⟩ := id hl
  refine enter (vs := [Value.slice A l.length cp]) Tryz.func14 rfl Tryz.ntmps14 rfl ?_
  refine w_seq ?_
  refine rg_text ?_
  refine x_alloc rfl rfl rfl zr25 ?_
  intro p2
  refine x_val rfl rfl rfl (v_assign rfl) ?_
  refine x_end ?_
  refine t_norm ?_
  refine w_seq ?_
  refine rg_text ?_
  refine x_val rfl rfl rfl (v_move rfl) ?_
  refine x_callv rfl rfl rfl Tryz.func40 (by kernel_rfl) rfl (fun w1 hw1 => c_text 1 1 0 w1 (hl.keep (Kept.later (hw1.base (by simp))))) ?_
  refine x_callv rfl rfl rfl Tryz.func39 (by kernel_rfl) rfl (fun w1 hw1 => c_read (txt l 1 1 0) w1 (Nat.le_trans (txt_sz hbig 1 1 0) (by decide)) (hL.later (hw1.base (by simp)))) ?_
  refine x_val rfl rfl rfl (v_move rfl) ?_
  refine x_callv rfl rfl rfl Tryz.func40 (by kernel_rfl) rfl (fun w1 hw1 => c_text 2 2 0 w1 (hl.keep (Kept.later (hw1.base (by simp))))) ?_
  refine x_callv rfl rfl rfl Tryz.func41 (by kernel_rfl) rfl (fun w1 hw1 => c_erec (txt l 2 2 0) w1 (txt_sz hbig 2 2 0) (hL.later (hw1.base (by simp)))) ?_
  refine x_val rfl rfl rfl (v_move rfl) ?_
  refine x_callv rfl rfl rfl Tryz.func40 (by kernel_rfl) rfl (fun w1 hw1 => c_text 3 0 1 w1 (hl.keep (Kept.later (hw1.base (by simp))))) ?_
  refine x_callv rfl rfl rfl Tryz.func39 (by kernel_rfl) rfl (fun w1 hw1 => c_read (txt l 3 0 1) w1 (Nat.le_trans (txt_sz hbig 3 0 1) (by decide)) (hL.later (hw1.base (by simp)))) ?_
  refine x_val rfl rfl rfl (v_move rfl) ?_
  refine x_callv rfl rfl rfl Tryz.func40 (by kernel_rfl) rfl (fun w1 hw1 => c_text 4 0 1 w1 (hl.keep (Kept.later (hw1.base (by simp))))) ?_
  refine x_callv rfl rfl rfl Tryz.func39 (by kernel_rfl) rfl (fun w1 hw1 => c_read (txt l 4 0 1) w1 (Nat.le_trans (txt_sz hbig 4 0 1) (by decide)) (hL.later (hw1.base (by simp)))) ?_
  refine x_val rfl rfl rfl (v_move rfl) ?_
  refine x_callv rfl rfl rfl Tryz.func40 (by kernel_rfl) rfl (fun w1 hw1 => c_text 5 0 1 w1 (hl.keep (Kept.later (hw1.base (by simp))))) ?_
  refine x_callv rfl rfl rfl Tryz.func39 (by kernel_rfl) rfl (fun w1 hw1 => c_read (txt l 5 0 1) w1 (Nat.le_trans (txt_sz hbig 5 0 1) (by decide)) (hL.later (hw1.base (by simp)))) ?_
  refine x_val rfl rfl rfl (v_buildL (places := [(0, 1), (1, 1), (2, 2), (4, 1), (5, 1), (6, 1), (7, 1), (8, 1)]) Tryz.underlying25 zr25 (by kernel_rfl) rfl rfl) ?_
  refine x_alloc rfl rfl rfl zr25 ?_
  intro p4
  refine x_store0 [] rfl rfl rfl rfl sz25 rfl rfl ?_
  refine x_end ?_
  refine t_norm ?_
  refine w_seq ?_
  refine w_seq ?_
  refine rg_text ?_
  refine x_val rfl rfl rfl (v_load_blk (e := 25) (fz := (0, 0)) (cs := (rdE l).cells.toArray) Tryz.underlying25 rfl rfl (.head _) sz25) ?_
  refine x_call (R := fun v wa wb => ∃ A1 c1, v = .slice A1 (orderR (rdE l)).length c1 ∧ sliceRd tySeg (fun b => wa.heap.size ≤ b) wb (.slice A1 (orderR (rdE l)).length c1) (orderR (rdE l)) ∧ A1.isNone = decide ((orderR (rdE l)).length = 0)) rfl rfl rfl Tryz.func11 (by kernel_rfl) rfl (fun w1 hw1 => (c_Order (rdE l) w1 (rdE_ok l) (hL.later (hw1.base (by simp)))).mono fun e w2 ⟨v, h1, h2, h3, h4⟩ => ord_out h1 h2 h3 h4) ?_
  intro v23 wa23 wb23 hm23 hl23 hR23
  obtain ⟨A1, c1, rfl, hr23, hn23⟩ := hR23
  refine x_val rfl rfl rfl (v_assign rfl) ?_
  refine x_end ?_
  refine t_norm ?_
  refine w_seq ?_
  refine rg_text ?_
  refine x_val rfl rfl rfl (v_move rfl) ?_
  refine x_bool rfl rfl rfl (v_sliceNil Tryz.underlying29 rfl) ?_
  intro b25 hb25
  refine x_val rfl rfl rfl (v_move rfl) ?_
  refine x_if [] rfl rfl rfl rfl rfl (fun hg => by obtain ⟨hg0, _⟩ := hg; subst hg0; (try simp only [List.cons_append, List.nil_append, gvl_nil, gvl_t, gvl_f]); exact v_move rfl) ?_
  refine x_if [] rfl rfl rfl rfl rfl (fun hg => by obtain ⟨hg0, _⟩ := hg; subst hg0; (try simp only [List.cons_append, List.nil_append, gvl_nil, gvl_t, gvl_f]); exact v_move rfl) ?_
  refine x_call_ifb [] rfl rfl rfl rfl rfl Tryz.func42 (by kernel_rfl) (fun hg => by obtain ⟨hg0, _⟩ := hg; subst hg0; (try simp only [List.cons_append, List.nil_append, gvl_nil, gvl_t, gvl_f]); refine ⟨_, rfl, ?_⟩; exact fun w1 hw1 => c_same (xs := orderR (rdE l)) (ys := l) w1 (keep_new hr23 hw1 (by repeat (first | exact List.Mem.head _ | apply List.Mem.tail)) hm23) (hl.keep (Kept.later (hw1.base (by simp))))) ?_
  intro b29 hb29
  refine x_ifb [] rfl rfl rfl rfl rfl (fun hg => by obtain ⟨hg0, _⟩ := hg; subst hg0; (try simp only [List.cons_append, List.nil_append, gvl_nil, gvl_t, gvl_f]); exact v_not rfl) ?_
  intro b30 hb30
  refine x_bool rfl rfl rfl (v_or rfl rfl) ?_
  intro b31 hb31
  refine x_end ?_
  refine t_norm ?_
  refine w_cond rfl (fun hc31 => ?_) (fun hc31 => ?_)
  · have hno : ¬(wrO (rdE l) ∧ orderP (rdE l) = l) := fun ⟨q1, q2⟩ => by
      have q3 : orderR (rdE l) = orderP (rdE l) := by unfold orderR; rw [if_pos ((writB_iff _).2 q1)]
      rw [hb31, hb30, hb29, hb25, hn23, q3, decide_eq_true q2] at hc31
      revert hc31; simp [orderP]
    refine w_seq ?_
    refine rg_text ?_
    refine x_val rfl rfl rfl (v_buildL (places := [(0, 1), (1, 1), (2, 2), (4, 1), (5, 1), (6, 1), (7, 1), (8, 1)]) Tryz.underlying25 zr25 (by kernel_rfl) rfl rfl) ?_
    refine x_store0 [(p4, Obj.cells (rdE l).cells.toArray 25)] rfl rfl rfl rfl sz25 rfl rfl ?_
    refine x_val rfl rfl rfl (v_assign rfl) ?_
    refine x_end ?_
    refine t_norm ?_
    refine w_ret ?_
    refine t_ret ?_
    refine retct (cs := zeroO.cells.toArray) rfl rfl rfl (by repeat (first | exact List.Mem.head _ | apply List.Mem.tail)) Tryz.underlying25 rfl sz25 (fun w' hm => ⟨?_, hm.base (by simp)⟩)
    unfold rdO; rw [if_neg hno]
  · have hyes : wrO (rdE l) ∧ orderP (rdE l) = l := by
      rw [hb31, hb30, hb29, hb25, hn23] at hc31
      simp only [Bool.or_eq_false_iff, decide_eq_false_iff_not, Bool.not_eq_false', decide_eq_true_eq] at hc31
      by_cases hw : writB (rdE l) = true
      · have q3 : orderR (rdE l) = orderP (rdE l) := by unfold orderR; rw [if_pos hw]
        exact ⟨(writB_iff _).1 hw, by rw [← q3]; exact hc31.2⟩
      · exfalso; apply hc31.1; unfold orderR; rw [if_neg hw]; rfl
    refine w_skip ?_
    refine t_norm ?_
    refine w_seq ?_
    refine rg_text ?_
    refine x_val rfl rfl rfl (v_load_blk (e := 25) (fz := (0, 0)) (cs := (rdE l).cells.toArray) Tryz.underlying25 rfl rfl (.head _) sz25) ?_
    refine x_store0 [(p4, Obj.cells (rdE l).cells.toArray 25)] rfl rfl rfl rfl sz25 rfl rfl ?_
    refine x_val rfl rfl rfl (v_assign rfl) ?_
    refine x_end ?_
    refine t_norm ?_
    refine w_ret ?_
    refine retct (cs := (rdE l).cells.toArray) rfl rfl rfl (by repeat (first | exact List.Mem.head _ | apply List.Mem.tail)) Tryz.underlying25 rfl sz25 (fun w' hm => ⟨?_, hm.base (by simp)⟩)
    unfold rdO; rw [if_pos hyes]
set_option maxRecDepth 100000 in
theorem c_rReadOrder {v : Value} {l : List Seg} {D : Nat → Prop} (w : World) (hl : sliceRd tySeg D w v l)  :
    Calls Tryz.prog 27 #[v] w fun e w' => e = .returned (.tuple #[.agg (rrO l).1.cells.toArray, .int .i64 (rrO l).2]) ∧ Later w w' := by
  obtain ⟨A, cp, rfl, hlc, hmx, _⟩ := id hl
  refine enter (vs := [Value.slice A l.length cp]) Tryz.func27 rfl Tryz.ntmps27 rfl ?_
  refine w_seq ?_
  refine rg_text ?_
  refine x_alloc rfl rfl rfl zr25 ?_
  intro p2
  refine x_val rfl rfl rfl (v_assign rfl) ?_
  refine x_end ?_
  refine t_norm ?_
  refine w_seq ?_
  refine rg_text ?_
  refine x_alloc rfl rfl rfl zr25 ?_
  intro p4
  refine x_end ?_
  refine t_norm ?_
  refine w_seq ?_
  refine rg_text ?_
  refine x_val rfl rfl rfl (v_move rfl) ?_
  refine x_callv rfl rfl rfl Tryz.func57 (by kernel_rfl) rfl (fun w1 hw1 => c_rrec 2 w1 (hl.keep (Kept.later (hw1.base (by simp))))) ?_
  refine x_val rfl rfl rfl (v_move rfl) ?_
  refine x_val rfl rfl rfl (v_extract rfl rfl) ?_
  refine x_bool rfl rfl rfl (v_extract rfl rfl) ?_
  intro b21 hb21
  refine x_alloc rfl rfl rfl zr23 ?_
  intro p5
  refine x_store0 [] rfl rfl rfl rfl sz23 rfl rfl ?_
  refine x_val rfl rfl rfl (v_assign rfl) ?_
  refine x_end ?_
  refine t_norm ?_
  refine w_seq ?_
  refine rg_text ?_
  refine x_val rfl rfl rfl (v_move rfl) ?_
  refine x_callv rfl rfl rfl Tryz.func58 (by kernel_rfl) rfl (fun w1 hw1 => c_at 1 1 0 w1 (hl.keep (Kept.later (hw1.base (by simp))))) ?_
  refine x_val rfl rfl rfl (v_move rfl) ?_
  refine x_val rfl rfl rfl (v_extract rfl rfl) ?_
  refine x_bool rfl rfl rfl (v_extract rfl rfl) ?_
  intro b26 hb26
  refine x_val rfl rfl rfl (v_assign rfl) ?_
  refine x_val rfl rfl rfl (v_assign rfl) ?_
  refine x_end ?_
  refine t_norm ?_
  refine w_seq ?_
  refine rg_text ?_
  refine x_val rfl rfl rfl (v_move rfl) ?_
  refine x_callv rfl rfl rfl Tryz.func58 (by kernel_rfl) rfl (fun w1 hw1 => c_at 3 0 1 w1 (hl.keep (Kept.later (hw1.base (by simp))))) ?_
  refine x_val rfl rfl rfl (v_move rfl) ?_
  refine x_val rfl rfl rfl (v_extract rfl rfl) ?_
  refine x_bool rfl rfl rfl (v_extract rfl rfl) ?_
  intro b31 hb31
  refine x_val rfl rfl rfl (v_assign rfl) ?_
  refine x_val rfl rfl rfl (v_assign rfl) ?_
  refine x_end ?_
  refine t_norm ?_
  refine w_seq ?_
  refine rg_text ?_
  refine x_val rfl rfl rfl (v_move rfl) ?_
  refine x_callv rfl rfl rfl Tryz.func58 (by kernel_rfl) rfl (fun w1 hw1 => c_at 4 0 1 w1 (hl.keep (Kept.later (hw1.base (by simp))))) ?_
  refine x_val rfl rfl rfl (v_move rfl) ?_
  refine x_val rfl rfl rfl (v_extract rfl rfl) ?_
  refine x_bool rfl rfl rfl (v_extract rfl rfl) ?_
  intro b36 hb36
  refine x_val rfl rfl rfl (v_assign rfl) ?_
  refine x_val rfl rfl rfl (v_assign rfl) ?_
  refine x_end ?_
  refine t_norm ?_
  refine w_seq ?_
  refine rg_text ?_
  refine x_val rfl rfl rfl (v_move rfl) ?_
  refine x_callv rfl rfl rfl Tryz.func58 (by kernel_rfl) rfl (fun w1 hw1 => c_at 5 0 1 w1 (hl.keep (Kept.later (hw1.base (by simp))))) ?_
  refine x_val rfl rfl rfl (v_move rfl) ?_
  refine x_val rfl rfl rfl (v_extract rfl rfl) ?_
  refine x_bool rfl rfl rfl (v_extract rfl rfl) ?_
  intro b41 hb41
  refine x_val rfl rfl rfl (v_assign rfl) ?_
  refine x_val rfl rfl rfl (v_assign rfl) ?_
  refine x_end ?_
  refine t_norm ?_
  refine w_seq ?_
  refine rg_text ?_
  refine x_val rfl rfl rfl (v_move rfl) ?_
  refine x_val rfl rfl rfl (v_move rfl) ?_
  refine x_val rfl rfl rfl (v_load_blk (e := 23) (fz := (0, 0)) (cs := [Value.int .i64 (rrec l 2).1.1, .int .i64 (rrec l 2).1.2].toArray) Tryz.underlying23 rfl rfl (by repeat (first | exact List.Mem.head _ | apply List.Mem.tail)) sz23) ?_
  refine x_val rfl rfl rfl (v_move rfl) ?_
  refine x_val rfl rfl rfl (v_move rfl) ?_
  refine x_val rfl rfl rfl (v_buildL (places := [(0, 1), (1, 1), (2, 2), (4, 1), (5, 1), (6, 1), (7, 1), (8, 1)]) Tryz.underlying25 zr25 (by kernel_rfl) rfl rfl) ?_
  refine x_store0 [(p5, Obj.cells [Value.int .i64 (rrec l 2).1.1, .int .i64 (rrec l 2).1.2].toArray 23)] rfl rfl rfl rfl sz25 rfl rfl ?_
  refine x_end ?_
  refine t_norm ?_
  refine w_seq ?_
  refine w_state _ [(p5, Obj.cells [Value.int .i64 (rrec l 2).1.1, .int .i64 (rrec l 2).1.2].toArray 23), (p4, Obj.cells (rdR l).cells.toArray 25), (p2, Obj.cells zeroO.cells.toArray 25)] _ ?_
  refine rg_text ?_
  refine x_val rfl rfl rfl (v_load_blk (e := 25) (fz := (0, 0)) (cs := (rdR l).cells.toArray) Tryz.underlying25 rfl rfl (by repeat (first | exact List.Mem.head _ | apply List.Mem.tail)) sz25) ?_
  refine x_callb rfl rfl rfl Tryz.func34 (by kernel_rfl) rfl (fun w1 hw1 => c_rWritable (rdR l) w1) ?_
  intro b49 hb49
  refine x_val rfl rfl rfl (v_assign rfl) ?_
  refine x_end ?_
  refine t_norm ?_
  refine w_seq ?_
  refine w_seq ?_
  refine rg_text ?_
  refine x_val rfl rfl rfl (v_move rfl) ?_
  refine x_bool rfl rfl rfl (v_not rfl) ?_
  intro b51 hb51
  refine x_val rfl rfl rfl (v_move rfl) ?_
  refine x_if [] rfl rfl rfl rfl rfl (fun hg => by obtain ⟨hg0, _⟩ := hg; subst hg0; (try simp only [List.cons_append, List.nil_append, gvl_nil, gvl_t, gvl_f]); exact v_move rfl) ?_
  refine x_ifb [] rfl rfl rfl rfl rfl (fun hg => by obtain ⟨hg0, _⟩ := hg; subst hg0; (try simp only [List.cons_append, List.nil_append, gvl_nil, gvl_t, gvl_f]); exact v_not rfl) ?_
  intro b54 hb54
  refine x_bool rfl rfl rfl (v_or rfl rfl) ?_
  intro b55 hb55
  refine x_val rfl rfl rfl (v_move rfl) ?_
  refine x_if [] rfl rfl rfl rfl rfl (fun hg => by obtain ⟨hg0, _⟩ := hg; subst hg0; (try simp only [List.cons_append, List.nil_append, gvl_nil, gvl_t, gvl_f]); exact v_move rfl) ?_
  refine x_ifb [] rfl rfl rfl rfl rfl (fun hg => by obtain ⟨hg0, _⟩ := hg; subst hg0; (try simp only [List.cons_append, List.nil_append, gvl_nil, gvl_t, gvl_f]); exact v_not rfl) ?_
  intro b58 hb58
  refine x_bool rfl rfl rfl (v_or rfl rfl) ?_
  intro b59 hb59
  refine x_val rfl rfl rfl (v_move rfl) ?_
  refine x_if [] rfl rfl rfl rfl rfl (fun hg => by obtain ⟨hg0, _⟩ := hg; subst hg0; (try simp only [List.cons_append, List.nil_append, gvl_nil, gvl_t, gvl_f]); exact v_move rfl) ?_
  refine x_ifb [] rfl rfl rfl rfl rfl (fun hg => by obtain ⟨hg0, _⟩ := hg; subst hg0; (try simp only [List.cons_append, List.nil_append, gvl_nil, gvl_t, gvl_f]); exact v_not rfl) ?_
  intro b62 hb62
  refine x_bool rfl rfl rfl (v_or rfl rfl) ?_
  intro b63 hb63
  refine x_val rfl rfl rfl (v_move rfl) ?_
  refine x_if [] rfl rfl rfl rfl rfl (fun hg => by obtain ⟨hg0, _⟩ := hg; subst hg0; (try simp only [List.cons_append, List.nil_append, gvl_nil, gvl_t, gvl_f]); exact v_move rfl) ?_
  refine x_ifb [] rfl rfl rfl rfl rfl (fun hg => by obtain ⟨hg0, _⟩ := hg; subst hg0; (try simp only [List.cons_append, List.nil_append, gvl_nil, gvl_t, gvl_f]); exact v_not rfl) ?_
  intro b66 hb66
  refine x_bool rfl rfl rfl (v_or rfl rfl) ?_
  intro b67 hb67
  refine x_val rfl rfl rfl (v_move rfl) ?_
  refine x_if [] rfl rfl rfl rfl rfl (fun hg => by obtain ⟨hg0, _⟩ := hg; subst hg0; (try simp only [List.cons_append, List.nil_append, gvl_nil, gvl_t, gvl_f]); exact v_move rfl) ?_
  refine x_ifb [] rfl rfl rfl rfl rfl (fun hg => by obtain ⟨hg0, _⟩ := hg; subst hg0; (try simp only [List.cons_append, List.nil_append, gvl_nil, gvl_t, gvl_f]); exact v_not rfl) ?_
  intro b70 hb70
  refine x_bool rfl rfl rfl (v_or rfl rfl) ?_
  intro b71 hb71
  refine x_end ?_
  refine t_norm ?_
  refine w_cond rfl (fun hc71 => ?_) (fun hc71 => ?_)
  · have hno : ¬(((((rrec l 2).2 = true ∧ (atP l 1 1 0).2 = true) ∧ (atP l 3 0 1).2 = true) ∧ (atP l 4 0 1).2 = true) ∧ (atP l 5 0 1).2 = true ∧ wrO (rdR l)) := fun ⟨⟨⟨⟨q1, q2⟩, q3⟩, q4⟩, q5, q6⟩ => by
      rw [hb71, hb70, hb67, hb66, hb63, hb62, hb59, hb58, hb55, hb54, hb51, hb49, hb21, hb26, hb31, hb36, hb41] at hc71
      simp [q1, q2, q3, q4, q5, (writB_iff _).2 q6] at hc71
    refine w_seq ?_
    refine rg_text ?_
    refine x_val rfl rfl rfl (v_buildL (places := [(0, 1), (1, 1), (2, 2), (4, 1), (5, 1), (6, 1), (7, 1), (8, 1)]) Tryz.underlying25 zr25 (by kernel_rfl) rfl rfl) ?_
    refine x_store0 [(p5, Obj.cells [Value.int .i64 (rrec l 2).1.1, .int .i64 (rrec l 2).1.2].toArray 23), (p4, Obj.cells (rdR l).cells.toArray 25)] rfl rfl rfl rfl sz25 rfl rfl ?_
    refine x_val rfl rfl rfl (v_assign rfl) ?_
    refine x_end ?_
    refine t_norm ?_
    refine w_ret ?_
    refine t_ret ?_
    refine retct (cs := zeroO.cells.toArray) rfl rfl rfl (by repeat (first | exact List.Mem.head _ | apply List.Mem.tail)) Tryz.underlying25 rfl sz25 (fun w' hm => ⟨?_, hm.base (by simp)⟩)
    unfold rrO; rw [if_neg (fun h => hno ⟨h.1, h.2.1, h.2.2.1⟩)]
  · have hok : ((((rrec l 2).2 = true ∧ (atP l 1 1 0).2 = true) ∧ (atP l 3 0 1).2 = true) ∧ (atP l 4 0 1).2 = true) ∧ (atP l 5 0 1).2 = true ∧ wrO (rdR l) := by
      rw [hb71, hb70, hb67, hb66, hb63, hb62, hb59, hb58, hb55, hb54, hb51, hb49, hb21, hb26, hb31, hb36, hb41] at hc71
      simp only [Bool.or_eq_false_iff, Bool.not_eq_false'] at hc71
      obtain ⟨⟨⟨⟨⟨q1, q2⟩, q3⟩, q4⟩, q5⟩, q6⟩ := hc71
      exact ⟨⟨⟨⟨q1, q2⟩, q3⟩, q4⟩, q5, (writB_iff _).1 q6⟩
    refine w_skip ?_
    refine t_norm ?_
    refine w_seq ?_
    refine rg_text ?_
    refine x_val rfl rfl rfl (v_load_blk (e := 25) (fz := (0, 0)) (cs := (rdR l).cells.toArray) Tryz.underlying25 rfl rfl (by repeat (first | exact List.Mem.head _ | apply List.Mem.tail)) sz25) ?_
    refine x_call (R := fun v wa wb => sliceRd tySeg (fun b => wa.heap.size ≤ b) wb v (orderR (rdR l))) rfl rfl rfl Tryz.func13 (by kernel_rfl) rfl (fun w1 hw1 => (c_rOrder (rdR l) w1 (rdR_ok l)).mono fun e w2 ⟨v, h1, h2, h3, _⟩ => ⟨_, h1, h2, h3⟩) ?_
    intro v74 wa74 wb74 hm74 hl74 hR74
    refine x_val rfl rfl rfl (v_move rfl) ?_
    refine x_callb rfl rfl rfl Tryz.func12 (by kernel_rfl) rfl (fun w1 hw1 => c_Same (xs := orderR (rdR l)) (ys := l) w1 (keep_new hR74 hw1 (by repeat (first | exact List.Mem.head _ | apply List.Mem.tail)) hm74) (hl.keep (Kept.later (hw1.base (by simp))))) ?_
    intro b76 hb76
    refine x_val rfl rfl rfl (v_assign rfl) ?_
    refine x_end ?_
    refine t_norm ?_
    refine w_seq ?_
    refine w_seq ?_
    refine rg_text ?_
    refine x_val rfl rfl rfl (v_move rfl) ?_
    refine x_bool rfl rfl rfl (v_not rfl) ?_
    intro b78 hb78
    refine x_end ?_
    refine t_norm ?_
    refine w_cond rfl (fun hc78 => ?_) (fun hc78 => ?_)
    · have hno : ¬orderX (rdR l) = l := fun q => by
        have q3 : orderR (rdR l) = orderX (rdR l) := by unfold orderR; rw [if_pos ((writB_iff _).2 hok.2.2), orderP_X (wrO_nn hok.2.2)]
        rw [hb78, hb76, q3, decide_eq_true q] at hc78; cases hc78
      refine w_seq ?_
      refine rg_text ?_
      refine x_val rfl rfl rfl (v_buildL (places := [(0, 1), (1, 1), (2, 2), (4, 1), (5, 1), (6, 1), (7, 1), (8, 1)]) Tryz.underlying25 zr25 (by kernel_rfl) rfl rfl) ?_
      refine x_store0 [(p5, Obj.cells [Value.int .i64 (rrec l 2).1.1, .int .i64 (rrec l 2).1.2].toArray 23), (p4, Obj.cells (rdR l).cells.toArray 25)] rfl rfl rfl rfl sz25 rfl rfl ?_
      refine x_val rfl rfl rfl (v_assign rfl) ?_
      refine x_end ?_
      refine t_norm ?_
      refine w_ret ?_
      refine t_ret ?_
      refine retct (cs := zeroO.cells.toArray) rfl rfl rfl (by repeat (first | exact List.Mem.head _ | apply List.Mem.tail)) Tryz.underlying25 rfl sz25 (fun w' hm => ⟨?_, hm.base (by simp)⟩)
      unfold rrO; rw [if_neg (fun h => hno h.2.2.2)]
    · have hyes : orderX (rdR l) = l := by
        have q3 : orderR (rdR l) = orderX (rdR l) := by unfold orderR; rw [if_pos ((writB_iff _).2 hok.2.2), orderP_X (wrO_nn hok.2.2)]
        rw [hb78, hb76, q3] at hc78
        exact of_decide_eq_true (by simpa using hc78)
      refine w_skip ?_
      refine t_norm ?_
      refine w_seq ?_
      refine rg_text ?_
      refine x_val rfl rfl rfl (v_load_blk (e := 25) (fz := (0, 0)) (cs := (rdR l).cells.toArray) Tryz.underlying25 rfl rfl (by repeat (first | exact List.Mem.head _ | apply List.Mem.tail)) sz25) ?_
      refine x_store0 [(p5, Obj.cells [Value.int .i64 (rrec l 2).1.1, .int .i64 (rrec l 2).1.2].toArray 23), (p4, Obj.cells (rdR l).cells.toArray 25)] rfl rfl rfl rfl sz25 rfl rfl ?_
      refine x_val rfl rfl rfl (v_assign rfl) ?_
      refine x_end ?_
      refine t_norm ?_
      refine w_ret ?_
      refine retct (cs := (rdR l).cells.toArray) rfl rfl rfl (by repeat (first | exact List.Mem.head _ | apply List.Mem.tail)) Tryz.underlying25 rfl sz25 (fun w' hm => ⟨?_, hm.base (by simp)⟩)
      unfold rrO; rw [if_pos ⟨hok.1, hok.2.1, hok.2.2, hyes⟩]

end Go.Proofs.YtbamklefagghcaaGreatDoor

namespace Go.Proofs.YtbamklefagghcaaGreatDoor
open Go.RowKit Go.PK
set_option linter.unusedVariables false
set_option linter.unusedSimpArgs false

theorem eq23 (w : World) (a b a' b' : Int) : (Op.equalIn 9999 23 (.agg #[.int .i64 a, .int .i64 b]) (.agg #[.int .i64 a', .int .i64 b'])).run Tryz.prog w = .ok (decide (a = a' ∧ b = b')) w := by
  have hf : (Tryz.prog.fieldsOf 23).toList = [⟨ "Source", 3, 0, false, "", "", 0⟩, ⟨ "Number", 3, 1, false, "", "", 8⟩] := by kernel_rfl
  rw [run_equalIn_struct w 9998 23 _ _ (by kernel_rfl) (by kernel_rfl), hf]
  simp only [Op.eqFields, part]
  simp [run_isAgg Tryz.underlying3, PK.run_sizeOf sz3, aggT, run_equalIn_int w 9997 3 .i64 .i64 _ _ Tryz.underlying3]
  by_cases h1 : a = a' <;> by_cases h2 : b = b' <;> simp [h1, h2]
theorem eq25 (w : World) (r s : Ord) : (Op.equalIn 10000 25 (.agg r.cells.toArray) (.agg s.cells.toArray)).run Tryz.prog w = .ok (decide (r = s)) w := by
  have hf : (Tryz.prog.fieldsOf 25).toList = [⟨ "Id", 3, 0, false, "", "", 0⟩, ⟨ "Fund", 3, 1, false, "", "", 8⟩, ⟨ "Rec", 23, 2, false, "", "", 16⟩, ⟨ "Copies", 3, 4, false, "", "", 32⟩, ⟨ "Price", 3, 5, false, "", "", 40⟩, ⟨ "Promised", 3, 6, false, "", "", 48⟩, ⟨ "Paid", 3, 7, false, "", "", 56⟩, ⟨ "State", 3, 8, false, "", "", 64⟩] := by kernel_rfl
  rw [run_equalIn_struct w 9999 25 _ _ (by kernel_rfl) (by kernel_rfl), hf]
  simp only [Op.eqFields, part, Ord.cells]
  obtain ⟨r1, r2, r3, r4, r5, r6, r7, r8, r9⟩ := r
  obtain ⟨s1, s2, s3, s4, s5, s6, s7, s8, s9⟩ := s
  simp [run_isAgg Tryz.underlying3, run_isAgg Tryz.underlying23, PK.run_sizeOf sz3, PK.run_sizeOf sz23, aggT, run_equalIn_int w 9998 3 .i64 .i64 _ _ Tryz.underlying3, eq23, Ord.mk.injEq]
  by_cases h1 : r1 = s1 <;> by_cases h2 : r2 = s2 <;> by_cases h3 : r3 = s3 <;> by_cases h4 : r4 = s4 <;> by_cases h5 : r5 = s5 <;> by_cases h6 : r6 = s6 <;> by_cases h7 : r7 = s7 <;> by_cases h8 : r8 = s8 <;> by_cases h9 : r9 = s9 <;> simp [h1, h2, h3, h4, h5, h6, h7, h8, h9]
end Go.Proofs.YtbamklefagghcaaGreatDoor

namespace Go.Proofs.YtbamklefagghcaaGreatDoor
open Go.RowKit Go.PK
set_option linter.unusedVariables false
set_option linter.unusedSimpArgs false
set_option maxRecDepth 100000 in
theorem c_Total {v : Value} {ls : List PK.Ord} {D : Nat → Prop} (w : World) (hls : sliceRd tyOrd D w v ls) (hw : ∀ o ∈ ls, wrO (pf o)) (hn : ls.length ≤ 1000) :
    Calls Tryz.prog 19 #[v] w fun e w' => e = .returned (.int .i64 (totalP ls)) ∧ Later w w' := by
  obtain ⟨A, cp, rfl, hlc, hmx, _⟩ := id hls
  refine enter (vs := [Value.slice A ls.length cp]) Tryz.func19 rfl Tryz.ntmps19 rfl ?_
  refine w_seq ?_
  refine rg_text ?_
  refine x_val rfl rfl rfl (v_assign rfl) ?_
  refine x_end ?_
  refine t_norm ?_
  refine w_seq ?_
  refine rg_text ?_
  refine x_val rfl rfl rfl (v_assign rfl) ?_
  refine x_end ?_
  refine t_norm ?_
  refine w_seq ?_
  refine w_seq ?_
  refine rg_text ?_
  refine x_val rfl rfl rfl (v_assign rfl) ?_
  refine x_end ?_
  refine t_norm ?_
  refine w_block ?_
  refine w_loop (σ := Nat) (fun k => k ≤ ls.length) (fun k => [(0, Value.slice A ls.length cp), (3, Value.int .i64 (totalP (ls.take k))), (4, Value.int .i64 (k : Nat))]) (fun k => []) (fun k => [(w, fun _ => True)]) (fun k => ls.length - k) (0) (Nat.zero_le _) (l_start (by repeat (first | exact Sub.nil | refine Sub.cons rfl ?_)) (fun _ h => h)) ?_
  rintro k hk
  refine w_state ([(0, Value.slice A ls.length cp), (3, Value.int .i64 (totalP (ls.take k))), (4, Value.int .i64 (k : Nat))]) ([]) ([(w, fun _ => True)]) ?_
  refine w_seq ?_
  refine w_seq ?_
  refine rg_text ?_
  refine x_val rfl rfl rfl (v_move rfl) ?_
  refine x_val rfl rfl rfl (v_move rfl) ?_
  refine x_val rfl rfl rfl (v_len_slice Tryz.underlying28 rfl) ?_
  refine x_bool rfl rfl rfl (v_lss rfl rfl) ?_
  intro b8 hb8
  refine x_end ?_
  refine t_norm ?_
  refine w_cond rfl (fun hc8 => ?_) (fun hc8 => ?_)
  · simp only [hb8, decide_eq_true_eq, decide_eq_false_iff_not, Bool.and_eq_true, Bool.or_eq_true, Bool.and_eq_false_iff, Bool.or_eq_false_iff, Bool.not_eq_true', Bool.not_eq_false', ne_eq, Decidable.not_not] at hc8
    have hkl : k < ls.length := by omega
    obtain ⟨ob, oo, hA, _, hc, hoA⟩ := ord_at hls hkl
    obtain ⟨g1, g2, _⟩ := line_rng (hw ls[k] (List.getElem_mem hkl))
    obtain ⟨t1, t2⟩ := total_take hw k
    obtain ⟨ox, hox⟩ : ∃ x, ls[k] = x := ⟨_, rfl⟩
    have hst : totalP (ls.take (k + 1)) = totalP (ls.take k) + ox.copies * ox.price := by rw [take_snoc hkl, totalP_snoc, hox]
    rw [hox] at g1 g2 hc
    refine w_skip ?_
    refine t_norm ?_
    refine w_seq ?_
    refine w_block ?_
    refine rg_draw 14 [(true, 0), (true, 1), (true, 2), (true, 3), (true, 4), (true, 5), (true, 6), (true, 7), (true, 8), (true, 9), (true, 10), (true, 11), (true, 12), (true, 13)] (by kernel_rfl) (by kernel_rfl) ?_
    refine x_val rfl rfl rfl (v_move rfl) ?_
    refine x_val rfl rfl rfl (v_move rfl) ?_
    refine x_val rfl rfl rfl (v_move rfl) ?_
    refine x_val rfl rfl rfl (v_indexAddr Tryz.underlying28 sz25 (congrArg (fun A => some (Value.slice A ls.length cp)) hA) rfl (hkl) rfl) ?_
    refine x_val rfl rfl rfl (v_fieldAddr Tryz.underlying25 rfl sz3 (by decide) rfl rfl) ?_
    refine x_val rfl rfl rfl (v_load Tryz.underlying3 rfl rfl (at_ro (.head _) trivial (hc 4 (by decide)))) ?_
    refine x_val rfl rfl rfl (v_move rfl) ?_
    refine x_val rfl rfl rfl (v_move rfl) ?_
    refine x_val rfl rfl rfl (v_indexAddr Tryz.underlying28 sz25 (congrArg (fun A => some (Value.slice A ls.length cp)) hA) rfl (hkl) rfl) ?_
    refine x_val rfl rfl rfl (v_fieldAddr Tryz.underlying25 rfl sz3 (by decide) rfl rfl) ?_
    refine x_val rfl rfl rfl (v_load Tryz.underlying3 rfl rfl (at_ro (.head _) trivial (hc 5 (by decide)))) ?_
    refine x_val rfl rfl rfl (v_muli rfl rfl rfl (by omega)) ?_
    refine x_val rfl rfl rfl (v_addi (c := totalP (ls.take (k + 1))) rfl rfl hst.symm (by rw [hst]; omega)) ?_
    refine x_val rfl rfl rfl (v_assign rfl) ?_
    refine x_end ?_
    refine b_norm ?_
    refine t_norm ?_
    refine rg_text ?_
    refine x_val rfl rfl rfl (v_move rfl) ?_
    refine x_val rfl rfl rfl (v_addi rfl rfl rfl (by first | omega | (dsimp only; omega))) ?_
    refine x_val rfl rfl rfl (v_assign rfl) ?_
    refine x_end ?_
    exact l_norm (k + 1) (show k + 1 ≤ ls.length by omega) (by omega) (by repeat (first | exact Sub.nil | refine Sub.cons rfl ?_)) (fun _ h => h)
  · simp only [hb8, decide_eq_true_eq, decide_eq_false_iff_not, Bool.and_eq_true, Bool.or_eq_true, Bool.and_eq_false_iff, Bool.or_eq_false_iff, Bool.not_eq_true', Bool.not_eq_false', ne_eq, Decidable.not_not] at hc8
    obtain rfl : k = ls.length := by omega
    refine w_exit ?_
    refine t_exit ?_
    refine t_exit ?_
    refine b_hit ?_
    refine t_norm ?_
    refine w_seq ?_
    refine rg_text ?_
    refine x_val rfl rfl rfl (v_move rfl) ?_
    refine x_val rfl rfl rfl (v_assign rfl) ?_
    refine x_end ?_
    refine t_norm ?_
    refine w_ret ?_
    refine ret1 rfl rfl (fun w' hm => ⟨?_, hm.base (by simp)⟩)
    rw [List.take_length]
set_option maxRecDepth 100000 in
theorem c_Payable {v : Value} {ls : List PK.Ord} {D : Nat → Prop} (w : World) (hls : sliceRd tyOrd D w v ls)  :
    Calls Tryz.prog 45 #[v] w fun e w' => e = .returned (.bool (decide (payP ls))) ∧ Later w w' := by
  obtain ⟨A, cp, rfl, hlc, hmx, _⟩ := id hls
  refine enter (vs := [Value.slice A ls.length cp]) Tryz.func45 rfl Tryz.ntmps45 rfl ?_
  refine w_seq ?_
  refine rg_text ?_
  refine x_val rfl rfl rfl (v_assign rfl) ?_
  refine x_end ?_
  refine t_norm ?_
  refine w_seq ?_
  refine w_seq ?_
  refine rg_text ?_
  refine x_val rfl rfl rfl (v_move rfl) ?_
  refine x_val rfl rfl rfl (v_len_slice Tryz.underlying28 rfl) ?_
  refine x_bool rfl rfl rfl (v_lss rfl rfl) ?_
  intro b8 hb8
  refine x_val rfl rfl rfl (v_move rfl) ?_
  refine x_if [] rfl rfl rfl rfl rfl (fun hg => by obtain ⟨hg0, _⟩ := hg; subst hg0; (try simp only [List.cons_append, List.nil_append, gvl_nil, gvl_t, gvl_f]); exact v_move rfl) ?_
  refine x_if [] rfl rfl rfl rfl rfl (fun hg => by obtain ⟨hg0, _⟩ := hg; subst hg0; (try simp only [List.cons_append, List.nil_append, gvl_nil, gvl_t, gvl_f]); exact v_len_slice Tryz.underlying28 rfl) ?_
  refine x_ifb [] rfl rfl rfl rfl rfl (fun hg => by obtain ⟨hg0, _⟩ := hg; subst hg0; (try simp only [List.cons_append, List.nil_append, gvl_nil, gvl_t, gvl_f]); exact v_gtr rfl rfl) ?_
  intro b12 hb12
  refine x_bool rfl rfl rfl (v_or rfl rfl) ?_
  intro b13 hb13
  refine x_end ?_
  refine t_norm ?_
  refine w_cond rfl (fun hc13 => ?_) (fun hc13 => ?_)
  · have hno : ¬payP ls := fun ⟨q1, q2, _⟩ => by
      simp only [hb13, hb12, hb8, Bool.or_eq_true, decide_eq_true_eq] at hc13
      omega
    refine w_seq ?_
    refine rg_text ?_
    refine x_val rfl rfl rfl (v_assign rfl) ?_
    refine x_end ?_
    refine t_norm ?_
    refine w_ret ?_
    refine t_ret ?_
    refine ret1 rfl rfl (fun w' hm => ⟨?_, hm.base (by simp)⟩)
    rw [decide_eq_false hno]
  · have hlen : 1 ≤ ls.length ∧ ls.length ≤ 999 := by
      simp only [hb13, hb12, hb8, Bool.or_eq_false_iff, decide_eq_false_iff_not] at hc13
      omega
    refine w_skip ?_
    refine t_norm ?_
    refine w_seq ?_
    refine w_seq ?_
    refine rg_text ?_
    refine x_val rfl rfl rfl (v_assign rfl) ?_
    refine x_end ?_
    refine t_norm ?_
    refine w_block ?_
    refine w_loop (σ := Nat) (fun k => k ≤ ls.length ∧ ∀ o ∈ ls.take k, wrO (pf o)) (fun k => [(0, Value.slice A ls.length cp), (3, Value.int .i64 (k : Nat))]) (fun k => []) (fun k => [(w, fun _ => True)]) (fun k => ls.length - k) (0) (⟨Nat.zero_le _, fun o ho => by simp at ho⟩) (l_start (by repeat (first | exact Sub.nil | refine Sub.cons rfl ?_)) (fun _ h => h)) ?_
    rintro k ⟨hk, hwr⟩
    refine w_state ([(0, Value.slice A ls.length cp), (3, Value.int .i64 (k : Nat))]) ([]) ([(w, fun _ => True)]) ?_
    refine w_seq ?_
    refine w_seq ?_
    refine rg_text ?_
    refine x_val rfl rfl rfl (v_move rfl) ?_
    refine x_val rfl rfl rfl (v_move rfl) ?_
    refine x_val rfl rfl rfl (v_len_slice Tryz.underlying28 rfl) ?_
    refine x_bool rfl rfl rfl (v_lss rfl rfl) ?_
    intro b17 hb17
    refine x_end ?_
    refine t_norm ?_
    refine w_cond rfl (fun hc17 => ?_) (fun hc17 => ?_)
    · simp only [hb17, decide_eq_true_eq, decide_eq_false_iff_not, Bool.and_eq_true, Bool.or_eq_true, Bool.and_eq_false_iff, Bool.or_eq_false_iff, Bool.not_eq_true', Bool.not_eq_false', ne_eq, Decidable.not_not] at hc17
      have hkl : k < ls.length := by omega
      obtain ⟨ob, oo, hA, _, hc, hoA⟩ := ord_at hls hkl
      refine w_skip ?_
      refine t_norm ?_
      refine w_seq ?_
      refine w_block ?_
      refine w_seq ?_
      refine rg_text ?_
      refine x_val rfl rfl rfl (v_move rfl) ?_
      refine x_val rfl rfl rfl (v_move rfl) ?_
      refine x_val rfl rfl rfl (v_indexAddr Tryz.underlying28 sz25 (congrArg (fun A => some (Value.slice A ls.length cp)) hA) rfl (hkl) rfl) ?_
      refine x_val rfl rfl rfl (v_loadN (vs := ls[k].cells) Tryz.underlying25 rfl sz25 rfl (fun j hj => at_ro (.head _) trivial (hc j hj))) ?_
      refine x_alloc rfl rfl rfl zr25 ?_
      intro p4
      refine x_store0 [] rfl rfl rfl rfl sz25 rfl rfl ?_
      refine x_end ?_
      refine t_norm ?_
      refine w_seq ?_
      refine rg_text ?_
      refine x_val rfl rfl rfl (v_fieldAddr (off' := 1) Tryz.underlying25 rfl sz3 (by decide) rfl rfl) ?_
      refine x_store [] rfl rfl rfl rfl sz3 rfl (by show 2 ≤ 9; decide) ?_
      refine x_end ?_
      refine t_norm ?_
      refine w_seq ?_
      refine w_state _ [(p4, Obj.cells (pf ls[k]).cells.toArray 25)] _ ?_
      refine rg_text ?_
      refine x_val rfl rfl rfl (v_load_blk (e := 25) (fz := (0, 0)) (cs := (pf ls[k]).cells.toArray) Tryz.underlying25 rfl rfl (.head _) sz25) ?_
      refine x_callb rfl rfl rfl Tryz.func34 (by kernel_rfl) rfl (fun w1 hw1 => c_rWritable (pf ls[k]) w1) ?_
      intro b26 hb26
      refine x_val rfl rfl rfl (v_assign rfl) ?_
      refine x_end ?_
      refine t_norm ?_
      refine w_seq ?_
      refine rg_text ?_
      refine x_val rfl rfl rfl (v_move rfl) ?_
      refine x_bool rfl rfl rfl (v_not rfl) ?_
      intro b28 hb28
      refine x_end ?_
      refine t_norm ?_
      refine w_cond rfl (fun hc28 => ?_) (fun hc28 => ?_)
      · have hno : ¬payP ls := fun ⟨_, _, q⟩ => by
          rw [hb28, hb26, (writB_iff _).2 (q ls[k] (List.getElem_mem hkl))] at hc28
          cases hc28
        refine w_seq ?_
        refine rg_text ?_
        refine x_val rfl rfl rfl (v_assign rfl) ?_
        refine x_end ?_
        refine t_norm ?_
        refine w_ret ?_
        refine b_ret ?_
        refine t_ret ?_
        refine t_ret ?_
        refine b_ret ?_
        refine t_ret ?_
        refine ret1 rfl rfl (fun w' hm => ⟨?_, hm.base (by simp)⟩)
        rw [decide_eq_false hno]
      · have hyes : wrO (pf ls[k]) := by
          rw [hb28, hb26] at hc28
          exact (writB_iff _).1 (by simpa using hc28)
        refine w_skip ?_
        refine b_norm ?_
        refine t_norm ?_
        refine rg_text ?_
        refine x_val rfl rfl rfl (v_move rfl) ?_
        refine x_val rfl rfl rfl (v_addi rfl rfl rfl (by first | omega | (dsimp only; omega))) ?_
        refine x_val rfl rfl rfl (v_assign rfl) ?_
        refine x_end ?_
        exact l_norm (k + 1) ⟨by omega, take_all_wr hkl hwr hyes⟩ (by omega) (by repeat (first | exact Sub.nil | refine Sub.cons rfl ?_)) (fun w1 h => h.less (List.nil_sublist _) (fun _ h => h))
    · simp only [hb17, decide_eq_true_eq, decide_eq_false_iff_not, Bool.and_eq_true, Bool.or_eq_true, Bool.and_eq_false_iff, Bool.or_eq_false_iff, Bool.not_eq_true', Bool.not_eq_false', ne_eq, Decidable.not_not] at hc17
      obtain rfl : k = ls.length := by omega
      rw [List.take_length] at hwr
      refine w_exit ?_
      refine t_exit ?_
      refine t_exit ?_
      refine b_hit ?_
      refine t_norm ?_
      refine w_seq ?_
      refine rg_text ?_
      refine x_val rfl rfl rfl (v_assign rfl) ?_
      refine x_end ?_
      refine t_norm ?_
      refine w_ret ?_
      refine ret1 rfl rfl (fun w' hm => ⟨?_, hm.base (by simp)⟩)
      rw [decide_eq_true (show payP ls from ⟨hlen.1, hlen.2, hwr⟩)]
set_option maxHeartbeats 2000000 in
set_option maxRecDepth 100000 in
theorem c_With {v : Value} {ls : List PK.Ord} {D : Nat → Prop} (w : World) (hls : sliceRd tyOrd D w v ls) (t : ByteArray) (hw : ∀ o ∈ ls, wrO (pf o)) (hn : ls.length ≤ 1000) (ht : okS t) :
    Calls Tryz.prog 20 #[v, .string t] w fun e w' => ∃ q, e = .returned q ∧ Later w w' ∧ sliceRd tySeg (fun b => w.heap.size ≤ b) w' q (withX ls t) := by
  obtain ⟨A, cp, rfl, hlc, hmx, _⟩ := id hls
  refine enter (vs := [Value.slice A ls.length cp, .string t]) Tryz.func20 rfl Tryz.ntmps20 rfl ?_
  refine w_seq ?_
  refine rg_text ?_
  refine x_val rfl rfl rfl (v_assign rfl) ?_
  refine x_end ?_
  refine t_norm ?_
  refine w_seq ?_
  refine rg_text ?_
  refine x_call (R := fun v wa wb => ∃ A c, v = .agg #[.string (⟨#[85, 78, 72]⟩), .slice A 2 c] ∧ sliceRd (tySlice tyStr) (fun b => wa.heap.size ≤ b) wb (.slice A 2 c) [[⟨#[49]⟩], [⟨#[73, 78, 86, 79, 73, 67]⟩, ⟨#[68]⟩, ⟨#[57, 54, 65]⟩, ⟨#[85, 78]⟩]]) rfl rfl rfl Tryz.func35 (by kernel_rfl) rfl (fun w1 hw1 => (c_header ⟨#[73, 78, 86, 79, 73, 67]⟩ w1 (okS_small (by decide))).mono fun e w2 ⟨u, h1, h2, h3⟩ => seg_out h1 h2 h3) ?_
  intro v8 wa8 wb8 hm8 hl8 hR8
  obtain ⟨A8, c8, rfl, hs8⟩ := hR8
  refine x_buildSliceL (cs := [Value.string (⟨#[51, 56, 48]⟩)]) rfl rfl rfl Tryz.underlying54 sz9 zr9 rfl rfl rfl ?_
  intro p9
  refine x_call (R := fun v wa wb => ∃ A c, v = .agg #[.string (⟨#[66, 71, 77]⟩), .slice A 1 c] ∧ sliceRd (tySlice tyStr) (fun b => wa.heap.size ≤ b) wb (.slice A 1 c) [[⟨#[51, 56, 48]⟩]]) rfl rfl rfl Tryz.func36 (by kernel_rfl) rfl (fun w1 hw1 => (c_one (es := [⟨#[51, 56, 48]⟩]) (D := fun _ => True) ⟨#[66, 71, 77]⟩ w1 (lits_own (T := tyStr) (D := fun _ => True) (e := 9) (b := p9) [[Value.string (⟨#[51, 56, 48]⟩)]] (xs := [⟨#[51, 56, 48]⟩]) hw1 (by repeat (first | exact List.Mem.head _ | apply List.Mem.tail)) rfl (by simp) trivial ⟨⟨rfl, (okS_small (by decide))⟩, trivial⟩) (by simp)).mono fun e w2 ⟨u, h1, h2, h3⟩ => seg_out h1 h2 h3) ?_
  intro v10 wa10 wb10 hm10 hl10 hR10
  obtain ⟨A10, c10, rfl, hs10⟩ := hR10
  refine x_buildSliceL (cs := ([[Value.string ⟨#[85, 78, 72]⟩, .slice A8 2 c8], [Value.string ⟨#[66, 71, 77]⟩, .slice A10 1 c10]] : List (List Value)).flatten) rfl rfl rfl Tryz.underlying29 sz49 zr49 rfl rfl rfl ?_
  intro p11
  refine x_val rfl rfl rfl (v_assign rfl) ?_
  refine x_end ?_
  refine t_norm ?_
  refine w_seq ?_
  refine w_seq ?_
  refine rg_text ?_
  refine x_val rfl rfl rfl (v_assign rfl) ?_
  refine x_end ?_
  refine t_norm ?_
  refine w_block ?_
  refine w_fix (rowO 49 (some (p11, ([[Value.string ⟨#[85, 78, 72]⟩, .slice A8 2 c8], [Value.string ⟨#[66, 71, 77]⟩, .slice A10 1 c10]] : List (List Value)).flatten, 2))) (List.Sublist.cons_cons _ (List.nil_sublist _)) (fun w0 hm0 => ?_)
  have hmB := hm0.less (own' := rowO 49 (some (p11, ([[Value.string ⟨#[85, 78, 72]⟩, .slice A8 2 c8], [Value.string ⟨#[66, 71, 77]⟩, .slice A10 1 c10]] : List (List Value)).flatten, 2))) (List.Sublist.cons_cons _ (List.nil_sublist _)) (fun _ h => h)
  have hT0 : RowT tySeg (newD w (rowO 49 (some (p11, ([[Value.string ⟨#[85, 78, 72]⟩, .slice A8 2 c8], [Value.string ⟨#[66, 71, 77]⟩, .slice A10 1 c10]] : List (List Value)).flatten, 2)))) w0 (some (p11, ([[Value.string ⟨#[85, 78, 72]⟩, .slice A8 2 c8], [Value.string ⟨#[66, 71, 77]⟩, .slice A10 1 c10]] : List (List Value)).flatten, 2)) (headX ++ linesX 0 (ls.take 0)) := snocM (T := tySeg) (xs := []) (css := []) (css' := [[Value.string ⟨#[85, 78, 72]⟩, .slice A8 2 c8], [Value.string ⟨#[66, 71, 77]⟩, .slice A10 1 c10]]) (m := 2) (n := 0) rfl rfl (fun j h => absurd h (Nat.not_lt_zero _)) (rowOK_lit rfl (by decide)) rfl (.cons (tySeg_mk (x := ⟨⟨#[85, 78, 72]⟩, [[⟨#[49]⟩], [⟨#[73, 78, 86, 79, 73, 67]⟩, ⟨#[68]⟩, ⟨#[57, 54, 65]⟩, ⟨#[85, 78]⟩]]⟩) rfl (show (3 : Nat) ≤ 9223372036854775807 by decide) (hs8.keep (Kept.made hmB (by first | repeat (first | exact List.Mem.head _ | apply List.Mem.tail) | simp) hm8 (hm8.base (by simp)).size))) (.cons (tySeg_mk (x := ⟨⟨#[66, 71, 77]⟩, [[⟨#[51, 56, 48]⟩]]⟩) rfl (show (3 : Nat) ≤ 9223372036854775807 by decide) (hs10.keep (Kept.made hmB (by first | repeat (first | exact List.Mem.head _ | apply List.Mem.tail) | simp) hm10 (hm10.base (by simp)).size))) .nil))
  refine w_loop (σ := Nat × RowS × World) (fun x => x.1 ≤ ls.length ∧ RowT tySeg (newD w (rowO 49 x.2.1)) x.2.2 x.2.1 (headX ++ linesX 0 (ls.take x.1))) (fun x => [(0, Value.slice A ls.length cp), (1, Value.string t), (5, rowV x.2.1 (2 + 4 * x.1)), (6, Value.int .i64 (x.1 : Nat))]) (fun x => rowO 49 x.2.1) (fun x => (x.2.2, notOwn (rowO 49 x.2.1)) :: [(w, fun _ => True)]) (fun x => ls.length - x.1) ((0, (some (p11, ([[Value.string ⟨#[85, 78, 72]⟩, .slice A8 2 c8], [Value.string ⟨#[66, 71, 77]⟩, .slice A10 1 c10]] : List (List Value)).flatten, 2)), w0)) (⟨Nat.zero_le _, hT0⟩) (l_start (by repeat (first | exact Sub.nil | refine Sub.cons rfl ?_)) (fun _ h => h.less (List.Sublist.refl _) (fun q hq => by simp at hq ⊢; rcases hq with h | h; (· exact .inl h); simp [h]))) ?_
  rintro ⟨k, R, ws⟩ ⟨hk, hT⟩
  refine w_state ([(0, Value.slice A ls.length cp), (1, Value.string t), (5, rowV R (2 + 4 * k)), (6, Value.int .i64 (k : Nat))]) (rowO 49 R) ((ws, notOwn (rowO 49 R)) :: [(w, fun _ => True)]) ?_
  dsimp only at hk hT
  have hln := hl_len hk
  refine w_seq ?_
  refine w_seq ?_
  refine rg_text ?_
  refine x_val rfl rfl rfl (v_move rfl) ?_
  refine x_val rfl rfl rfl (v_move rfl) ?_
  refine x_val rfl rfl rfl (v_len_slice Tryz.underlying28 rfl) ?_
  refine x_bool rfl rfl rfl (v_lss rfl rfl) ?_
  intro b15 hb15
  refine x_end ?_
  refine t_norm ?_
  refine w_cond rfl (fun hc15 => ?_) (fun hc15 => ?_)
  · simp only [hb15, decide_eq_true_eq, decide_eq_false_iff_not, Bool.and_eq_true, Bool.or_eq_true, Bool.and_eq_false_iff, Bool.or_eq_false_iff, Bool.not_eq_true', Bool.not_eq_false', ne_eq, Decidable.not_not] at hc15
    have hkl : k < ls.length := by omega
    obtain ⟨ob, oo, hA, _, hc, hoA⟩ := ord_at hls hkl
    obtain ⟨_, _, ⟨r1, r2⟩, ⟨r3, r4⟩, ⟨r5, r6⟩, ⟨r7, r8⟩, r9, r10⟩ := line_rng (hw ls[k] (List.getElem_mem hkl))
    obtain ⟨⟨i1, _, i3, i4, i5, i6⟩, _⟩ := id hoA
    refine w_skip ?_
    refine t_norm ?_
    refine w_seq ?_
    refine w_block ?_
    refine w_seq ?_
    refine rg_text ?_
    refine x_val rfl rfl rfl (v_move rfl) ?_
    refine x_val rfl rfl rfl (v_move rfl) ?_
    refine x_val rfl rfl rfl (v_indexAddr Tryz.underlying28 sz25 (congrArg (fun A => some (Value.slice A ls.length cp)) hA) rfl (hkl) rfl) ?_
    refine x_val rfl rfl rfl (v_loadN (vs := ls[k].cells) Tryz.underlying25 rfl sz25 rfl (fun j hj => at_ro (.tail _ (.head _)) trivial (hc j hj))) ?_
    refine x_alloc rfl rfl rfl zr25 ?_
    intro p7
    refine x_store0 [] rfl rfl rfl rfl sz25 rfl rfl ?_
    refine x_end ?_
    refine t_norm ?_
    refine rg_draw 19 [(true, 0), (true, 1), (true, 2), (true, 3), (true, 4), (true, 6), (true, 7), (true, 10), (true, 11), (true, 14), (true, 15), (false, 5), (true, 8), (false, 9), (true, 12), (false, 13), (true, 16), (false, 17), (false, 18)] (by kernel_rfl) (by kernel_rfl) ?_
    refine x_val rfl rfl rfl (v_move rfl) ?_
    refine x_val rfl rfl rfl (v_move rfl) ?_
    refine x_val rfl rfl rfl (v_addi (c := ((k + 1 : Nat) : Int)) rfl rfl (by omega) (by omega)) ?_
    refine x_val rfl rfl rfl (v_fieldAddr (off' := 2) Tryz.underlying25 rfl sz23 (by decide) rfl rfl) ?_
    refine x_val rfl rfl rfl (v_loadN (vs := [Value.int .i64 ls[k].src, .int .i64 ls[k].num]) Tryz.underlying23 rfl sz23 rfl (fun j hj => at_ownL (vs := ls[k].cells) (by repeat (first | exact List.Mem.head _ | apply List.Mem.tail)) (by match j, hj with | 0, _ => rfl | 1, _ => rfl))) ?_
    refine x_val rfl rfl rfl (v_fieldAddr (off' := 0) Tryz.underlying25 rfl sz3 (by decide) rfl rfl) ?_
    refine x_val rfl rfl rfl (v_load Tryz.underlying3 rfl rfl (by first | exact at_ownL (.head _) rfl | exact at_ownL (.tail _ (.head _)) rfl | exact at_ownL (.tail _ (.tail _ (.head _))) rfl | (apply at_ownL; ((repeat (first | exact List.Mem.head _ | apply List.Mem.tail | apply List.mem_append_right))); rfl) | (refine at_ro (by first | exact .head _ | exact .tail _ (.head _) | exact .tail _ (.tail _ (.head _)) | simp) ?_ (by assumption); trivial))) ?_
    refine x_val rfl rfl rfl (v_fieldAddr (off' := 4) Tryz.underlying25 rfl sz3 (by decide) rfl rfl) ?_
    refine x_val rfl rfl rfl (v_load Tryz.underlying3 rfl rfl (by first | exact at_ownL (.head _) rfl | exact at_ownL (.tail _ (.head _)) rfl | exact at_ownL (.tail _ (.tail _ (.head _))) rfl | (apply at_ownL; ((repeat (first | exact List.Mem.head _ | apply List.Mem.tail | apply List.mem_append_right))); rfl) | (refine at_ro (by first | exact .head _ | exact .tail _ (.head _) | exact .tail _ (.tail _ (.head _)) | simp) ?_ (by assumption); trivial))) ?_
    refine x_val rfl rfl rfl (v_fieldAddr (off' := 5) Tryz.underlying25 rfl sz3 (by decide) rfl rfl) ?_
    refine x_val rfl rfl rfl (v_load Tryz.underlying3 rfl rfl (by first | exact at_ownL (.head _) rfl | exact at_ownL (.tail _ (.head _)) rfl | exact at_ownL (.tail _ (.tail _ (.head _))) rfl | (apply at_ownL; ((repeat (first | exact List.Mem.head _ | apply List.Mem.tail | apply List.mem_append_right))); rfl) | (refine at_ro (by first | exact .head _ | exact .tail _ (.head _) | exact .tail _ (.tail _ (.head _)) | simp) ?_ (by assumption); trivial))) ?_
    refine x_call (R := fun v wa wb => ∃ A c, v = .agg #[.string (⟨#[76, 73, 78]⟩), .slice A 3 c] ∧ sliceRd (tySlice tyStr) (fun b => wa.heap.size ≤ b) wb (.slice A 3 c) [[itoaS ((k + 1 : Nat) : Int)], [⟨#[]⟩], [recT ls[k].src ls[k].num, ⟨#[83, 82, 86]⟩]]) rfl rfl rfl Tryz.func37 (by kernel_rfl) rfl (fun w1 hw1 => (c_line ((k + 1 : Nat) : Int) (ls[k].src, ls[k].num) w1 ⟨by omega, by unfold in64; omega⟩ ⟨r3, i3⟩ ⟨r5, i4⟩).mono fun e w2 ⟨u, h1, h2, h3⟩ => seg_out h1 h2 h3) ?_
    intro v27 wa27 wb27 hm27 hl27 hR27
    obtain ⟨A27, c27, rfl, hs27⟩ := hR27
    refine x_callv rfl rfl rfl Tryz.func21 (by kernel_rfl) rfl (fun w1 hw1 => c_Dec ls[k].id w1 r1 i1) ?_
    refine x_call (R := fun v wa wb => ∃ A c, v = .agg #[.string (⟨#[82, 70, 70]⟩), .slice A 1 c] ∧ sliceRd (tySlice tyStr) (fun b => wa.heap.size ≤ b) wb (.slice A 1 c) [[⟨#[79, 78]⟩, itoaS ls[k].id]]) rfl rfl rfl Tryz.func38 (by kernel_rfl) rfl (fun w1 hw1 => (c_pair ⟨#[82, 70, 70]⟩ ⟨#[79, 78]⟩ (itoaS ls[k].id) w1 (okS_small (by decide)) (itoa_ok i1)).mono fun e w2 ⟨u, h1, h2, h3⟩ => seg_out h1 h2 h3) ?_
    intro v31 wa31 wb31 hm31 hl31 hR31
    obtain ⟨A31, c31, rfl, hs31⟩ := hR31
    refine x_callv rfl rfl rfl Tryz.func21 (by kernel_rfl) rfl (fun w1 hw1 => c_Dec ls[k].copies w1 r7 i5) ?_
    refine x_call (R := fun v wa wb => ∃ A c, v = .agg #[.string (⟨#[81, 84, 89]⟩), .slice A 1 c] ∧ sliceRd (tySlice tyStr) (fun b => wa.heap.size ≤ b) wb (.slice A 1 c) [[⟨#[52, 55]⟩, itoaS ls[k].copies]]) rfl rfl rfl Tryz.func38 (by kernel_rfl) rfl (fun w1 hw1 => (c_pair ⟨#[81, 84, 89]⟩ ⟨#[52, 55]⟩ (itoaS ls[k].copies) w1 (okS_small (by decide)) (itoa_ok i5)).mono fun e w2 ⟨u, h1, h2, h3⟩ => seg_out h1 h2 h3) ?_
    intro v35 wa35 wb35 hm35 hl35 hR35
    obtain ⟨A35, c35, rfl, hs35⟩ := hR35
    refine x_callv rfl rfl rfl Tryz.func21 (by kernel_rfl) rfl (fun w1 hw1 => c_Dec ls[k].price w1 r9 i6) ?_
    refine x_call (R := fun v wa wb => ∃ A c, v = .agg #[.string (⟨#[80, 82, 73]⟩), .slice A 1 c] ∧ sliceRd (tySlice tyStr) (fun b => wa.heap.size ≤ b) wb (.slice A 1 c) [[⟨#[65, 65, 65]⟩, itoaS ls[k].price]]) rfl rfl rfl Tryz.func38 (by kernel_rfl) rfl (fun w1 hw1 => (c_pair ⟨#[80, 82, 73]⟩ ⟨#[65, 65, 65]⟩ (itoaS ls[k].price) w1 (okS_small (by decide)) (itoa_ok i6)).mono fun e w2 ⟨u, h1, h2, h3⟩ => seg_out h1 h2 h3) ?_
    intro v39 wa39 wb39 hm39 hl39 hR39
    obtain ⟨A39, c39, rfl, hs39⟩ := hR39
    refine x_buildSliceL (cs := ([[Value.string ⟨#[76, 73, 78]⟩, .slice A27 3 c27], [Value.string ⟨#[82, 70, 70]⟩, .slice A31 1 c31], [Value.string ⟨#[81, 84, 89]⟩, .slice A35 1 c35], [Value.string ⟨#[80, 82, 73]⟩, .slice A39 1 c39]] : List (List Value)).flatten) rfl rfl rfl Tryz.underlying29 sz49 zr49 rfl rfl rfl ?_
    intro p40
    obtain ⟨css, hcl, hrow, hrd⟩ := hT
    rw [hln] at hcl hrow
    refine x_append (e := 49) [(p40, Obj.cells ([[Value.string ⟨#[76, 73, 78]⟩, .slice A27 3 c27], [Value.string ⟨#[82, 70, 70]⟩, .slice A31 1 c31], [Value.string ⟨#[81, 84, 89]⟩, .slice A35 1 c35], [Value.string ⟨#[80, 82, 73]⟩, .slice A39 1 c39]] : List (List Value)).flatten.toArray 49), (p7, Obj.cells ls[k].cells.toArray 25)] (l2 := []) R (len := 2 + 4 * k) (xs := css.flatten) rfl rfl rfl rfl (by rw [List.append_nil]; rfl) hrow Tryz.underlying29 ap49 rfl rfl (m := 4) (news := ([[Value.string ⟨#[76, 73, 78]⟩, .slice A27 3 c27], [Value.string ⟨#[82, 70, 70]⟩, .slice A31 1 c31], [Value.string ⟨#[81, 84, 89]⟩, .slice A35 1 c35], [Value.string ⟨#[80, 82, 73]⟩, .slice A39 1 c39]] : List (List Value)).flatten) (fun i hi => at_ownL (vs := ([[Value.string ⟨#[76, 73, 78]⟩, .slice A27 3 c27], [Value.string ⟨#[82, 70, 70]⟩, .slice A31 1 c31], [Value.string ⟨#[81, 84, 89]⟩, .slice A35 1 c35], [Value.string ⟨#[80, 82, 73]⟩, .slice A39 1 c39]] : List (List Value)).flatten) (.head _) (by rw [Nat.zero_add]; exact List.getElem?_eq_getElem hi)) rfl (by simp only [maxLen]; omega) (by omega) ?_
    intro R' hR'
    refine x_val rfl rfl rfl (v_assign rfl) ?_
    refine x_end ?_
    refine b_norm ?_
    refine t_norm ?_
    refine rg_text ?_
    refine x_val rfl rfl rfl (v_move rfl) ?_
    refine x_val rfl rfl rfl (v_addi rfl rfl rfl (by first | omega | (dsimp only; omega))) ?_
    refine x_val rfl rfl rfl (v_assign rfl) ?_
    refine x_end ?_
    rw [List.append_nil]
    have hsub : (rowO 49 R').Sublist ([(p40, Obj.cells ([[Value.string ⟨#[76, 73, 78]⟩, .slice A27 3 c27], [Value.string ⟨#[82, 70, 70]⟩, .slice A31 1 c31], [Value.string ⟨#[81, 84, 89]⟩, .slice A35 1 c35], [Value.string ⟨#[80, 82, 73]⟩, .slice A39 1 c39]] : List (List Value)).flatten.toArray 49), (p7, Obj.cells ls[k].cells.toArray 25)] ++ rowO 49 R') := List.sublist_append_right _ _
    refine s_fix (rowO 49 R') hsub (fun w0 hm0 => ?_)
    have hmB := hm0.less hsub (fun _ h => h)
    have hT' := snocM (T := tySeg) (D := newD w (rowO 49 R')) (ws := w0) (ys := inv4 k ls[k]) hln hcl (fun j h1 h2 => tySeg.keep (hrd j h1 h2) (Kept.frz hm0 hsub (by simp))) hR' rfl (.cons (tySeg_mk (x := ⟨⟨#[76, 73, 78]⟩, [[itoaS ((k + 1 : Nat) : Int)], [⟨#[]⟩], [recT ls[k].src ls[k].num, ⟨#[83, 82, 86]⟩]]⟩) rfl (show (3 : Nat) ≤ 9223372036854775807 by decide) (hs27.keep (Kept.made hmB (by first | repeat (first | exact List.Mem.head _ | apply List.Mem.tail) | simp) hm27 (hm27.base (by simp)).size))) (.cons (tySeg_mk (x := ⟨⟨#[82, 70, 70]⟩, [[⟨#[79, 78]⟩, itoaS ls[k].id]]⟩) rfl (show (3 : Nat) ≤ 9223372036854775807 by decide) (hs31.keep (Kept.made hmB (by first | repeat (first | exact List.Mem.head _ | apply List.Mem.tail) | simp) hm31 (hm31.base (by simp)).size))) (.cons (tySeg_mk (x := ⟨⟨#[81, 84, 89]⟩, [[⟨#[52, 55]⟩, itoaS ls[k].copies]]⟩) rfl (show (3 : Nat) ≤ 9223372036854775807 by decide) (hs35.keep (Kept.made hmB (by first | repeat (first | exact List.Mem.head _ | apply List.Mem.tail) | simp) hm35 (hm35.base (by simp)).size))) (.cons (tySeg_mk (x := ⟨⟨#[80, 82, 73]⟩, [[⟨#[65, 65, 65]⟩, itoaS ls[k].price]]⟩) rfl (show (3 : Nat) ≤ 9223372036854775807 by decide) (hs39.keep (Kept.made hmB (by first | repeat (first | exact List.Mem.head _ | apply List.Mem.tail) | simp) hm39 (hm39.base (by simp)).size))) .nil))))
    exact l_norm (x := (k, R, ws)) (μ := fun q : Nat × RowS × World => ls.length - q.1) (k + 1, R', w0) ⟨by dsimp only; omega, by dsimp only; rw [linesX_take hkl]; exact hT'⟩ (by simp only; omega) (by dsimp only; rw [show 2 + 4 * (k + 1) = 2 + 4 * k + 4 by omega]; repeat (first | exact Sub.nil | refine Sub.cons rfl ?_)) (fun w1 h => h.less (List.Sublist.refl _) (fun q hq => by simp at hq ⊢; rcases hq with h | h; (· exact .inl h); simp [h]))
  · simp only [hb15, decide_eq_true_eq, decide_eq_false_iff_not, Bool.and_eq_true, Bool.or_eq_true, Bool.and_eq_false_iff, Bool.or_eq_false_iff, Bool.not_eq_true', Bool.not_eq_false', ne_eq, Decidable.not_not] at hc15
    obtain rfl : k = ls.length := by omega
    rw [List.take_length] at hT hln
    refine w_exit ?_
    refine t_exit ?_
    refine t_exit ?_
    refine b_hit ?_
    refine t_norm ?_
    refine w_seq ?_
    refine rg_text ?_
    refine x_val rfl rfl rfl (v_move rfl) ?_
    refine x_buildSliceL (cs := [Value.string (⟨#[83]⟩)]) rfl rfl rfl Tryz.underlying54 sz9 zr9 rfl rfl rfl ?_
    intro p43
    refine x_call (R := fun v wa wb => ∃ A c, v = .agg #[.string (⟨#[85, 78, 83]⟩), .slice A 1 c] ∧ sliceRd (tySlice tyStr) (fun b => wa.heap.size ≤ b) wb (.slice A 1 c) [[⟨#[83]⟩]]) rfl rfl rfl Tryz.func36 (by kernel_rfl) rfl (fun w1 hw1 => (c_one (es := [⟨#[83]⟩]) (D := fun _ => True) ⟨#[85, 78, 83]⟩ w1 (lits_own (T := tyStr) (D := fun _ => True) (e := 9) (b := p43) [[Value.string (⟨#[83]⟩)]] (xs := [⟨#[83]⟩]) hw1 (by repeat (first | exact List.Mem.head _ | apply List.Mem.tail)) rfl (by simp) trivial ⟨⟨rfl, (okS_small (by decide))⟩, trivial⟩) (by simp)).mono fun e w2 ⟨u, h1, h2, h3⟩ => seg_out h1 h2 h3) ?_
    intro v44 wa44 wb44 hm44 hl44 hR44
    obtain ⟨A44, c44, rfl, hs44⟩ := hR44
    refine x_val rfl rfl rfl (v_move rfl) ?_
    refine x_call (R := fun v wa wb => ∃ A c, v = .agg #[.string (⟨#[77, 79, 65]⟩), .slice A 1 c] ∧ sliceRd (tySlice tyStr) (fun b => wa.heap.size ≤ b) wb (.slice A 1 c) [[⟨#[56, 54]⟩, t]]) rfl rfl rfl Tryz.func38 (by kernel_rfl) rfl (fun w1 hw1 => (c_pair ⟨#[77, 79, 65]⟩ ⟨#[56, 54]⟩ t w1 (okS_small (by decide)) ht).mono fun e w2 ⟨u, h1, h2, h3⟩ => seg_out h1 h2 h3) ?_
    intro v46 wa46 wb46 hm46 hl46 hR46
    obtain ⟨A46, c46, rfl, hs46⟩ := hR46
    refine x_val rfl rfl rfl (v_move rfl) ?_
    refine x_val rfl rfl rfl (v_len_slice Tryz.underlying28 rfl) ?_
    refine x_val rfl rfl rfl (v_muli rfl rfl rfl (by omega)) ?_
    refine x_val rfl rfl rfl (v_addi (c := ((4 * ls.length + 5 : Nat) : Int)) rfl rfl (by omega) (by omega)) ?_
    refine x_callv rfl rfl rfl Tryz.func21 (by kernel_rfl) rfl (fun w1 hw1 => c_Dec ((4 * ls.length + 5 : Nat) : Int) w1 (by omega) (by unfold in64; omega)) ?_
    refine x_buildSliceL (cs := [Value.string (itoaS ((4 * ls.length + 5 : Nat) : Int)), Value.string (⟨#[49]⟩)]) rfl rfl rfl Tryz.underlying54 sz9 zr9 rfl rfl rfl ?_
    intro p52
    refine x_call (R := fun v wa wb => ∃ A c, v = .agg #[.string (⟨#[85, 78, 84]⟩), .slice A 2 c] ∧ sliceRd (tySlice tyStr) (fun b => wa.heap.size ≤ b) wb (.slice A 2 c) [[itoaS ((4 * ls.length + 5 : Nat) : Int)], [⟨#[49]⟩]]) rfl rfl rfl Tryz.func36 (by kernel_rfl) rfl (fun w1 hw1 => (c_one (es := [itoaS ((4 * ls.length + 5 : Nat) : Int), ⟨#[49]⟩]) (D := fun _ => True) ⟨#[85, 78, 84]⟩ w1 (lits_own (T := tyStr) (D := fun _ => True) (e := 9) (b := p52) [[Value.string (itoaS ((4 * ls.length + 5 : Nat) : Int))], [Value.string (⟨#[49]⟩)]] (xs := [itoaS ((4 * ls.length + 5 : Nat) : Int), ⟨#[49]⟩]) hw1 (by repeat (first | exact List.Mem.head _ | apply List.Mem.tail)) rfl (by simp) trivial ⟨⟨rfl, itoa_ok (by unfold in64; omega)⟩, ⟨rfl, (okS_small (by decide))⟩, trivial⟩) (by simp)).mono fun e w2 ⟨u, h1, h2, h3⟩ => seg_out h1 h2 h3) ?_
    intro v53 wa53 wb53 hm53 hl53 hR53
    obtain ⟨A53, c53, rfl, hs53⟩ := hR53
    refine x_buildSliceL (cs := ([[Value.string ⟨#[85, 78, 83]⟩, .slice A44 1 c44], [Value.string ⟨#[77, 79, 65]⟩, .slice A46 1 c46], [Value.string ⟨#[85, 78, 84]⟩, .slice A53 2 c53]] : List (List Value)).flatten) rfl rfl rfl Tryz.underlying29 sz49 zr49 rfl rfl rfl ?_
    intro p54
    obtain ⟨css, hcl, hrow, hrd⟩ := hT
    rw [hln] at hcl hrow
    refine x_append (e := 49) [(p54, _), (p52, _), (p43, _)] (l2 := []) R (len := 2 + 4 * ls.length) (xs := css.flatten) rfl rfl rfl rfl (by rw [List.append_nil]; rfl) hrow Tryz.underlying29 ap49 rfl rfl (m := 3) (news := ([[Value.string ⟨#[85, 78, 83]⟩, .slice A44 1 c44], [Value.string ⟨#[77, 79, 65]⟩, .slice A46 1 c46], [Value.string ⟨#[85, 78, 84]⟩, .slice A53 2 c53]] : List (List Value)).flatten) (fun i hi => at_ownL (vs := ([[Value.string ⟨#[85, 78, 83]⟩, .slice A44 1 c44], [Value.string ⟨#[77, 79, 65]⟩, .slice A46 1 c46], [Value.string ⟨#[85, 78, 84]⟩, .slice A53 2 c53]] : List (List Value)).flatten) (.head _) (by rw [Nat.zero_add]; exact List.getElem?_eq_getElem hi)) rfl (by simp only [maxLen]; omega) (by omega) ?_
    intro R' hR'
    refine x_val rfl rfl rfl (v_assign rfl) ?_
    refine x_end ?_
    refine t_norm ?_
    refine w_ret ?_
    rw [List.append_nil]
    refine ret1 rfl rfl (fun w' hm => ⟨_, rfl, hm.base (by simp), ?_⟩)
    have hsub := List.sublist_append_right ([(p54, Obj.cells ([[Value.string ⟨#[85, 78, 83]⟩, .slice A44 1 c44], [Value.string ⟨#[77, 79, 65]⟩, .slice A46 1 c46], [Value.string ⟨#[85, 78, 84]⟩, .slice A53 2 c53]] : List (List Value)).flatten.toArray 49), (p52, Obj.cells [Value.string (itoaS ((4 * ls.length + 5 : Nat) : Int)), Value.string (⟨#[49]⟩)].toArray 9), (p43, Obj.cells [Value.string (⟨#[83]⟩)].toArray 9)] : List (Nat × Obj)) (rowO 49 R')
    have hmB := hm.less hsub (fun _ h => h)
    have hT' := snocM (T := tySeg) (D := newD w (rowO 49 R')) (ws := w') (ys := tailX ls.length t) hln hcl (fun j h1 h2 => tySeg.keep (hrd j h1 h2) (Kept.frz hm hsub (by simp))) hR' rfl (.cons (tySeg_mk (x := ⟨⟨#[85, 78, 83]⟩, [[⟨#[83]⟩]]⟩) rfl (show (3 : Nat) ≤ 9223372036854775807 by decide) (hs44.keep (Kept.made hmB (by first | repeat (first | exact List.Mem.head _ | apply List.Mem.tail) | simp) hm44 (hm44.base (by simp)).size))) (.cons (tySeg_mk (x := ⟨⟨#[77, 79, 65]⟩, [[⟨#[56, 54]⟩, t]]⟩) rfl (show (3 : Nat) ≤ 9223372036854775807 by decide) (hs46.keep (Kept.made hmB (by first | repeat (first | exact List.Mem.head _ | apply List.Mem.tail) | simp) hm46 (hm46.base (by simp)).size))) (.cons (tySeg_mk (x := ⟨⟨#[85, 78, 84]⟩, [[itoaS ((4 * ls.length + 5 : Nat) : Int)], [⟨#[49]⟩]]⟩) rfl (show (3 : Nat) ≤ 9223372036854775807 by decide) (hs53.keep (Kept.made hmB (by first | repeat (first | exact List.Mem.head _ | apply List.Mem.tail) | simp) hm53 (hm53.base (by simp)).size))) .nil)))
    exact hT'.rd (e := 49) hmB (fun q hq => hq) (fun _ h => h.1) (fun q hq => hmB.newer (by simp) hq) (by rw [List.length_append, hln]; rfl)

end Go.Proofs.YtbamklefagghcaaGreatDoor

namespace Go.Proofs.YtbamklefagghcaaGreatDoor
open Go.RowKit Go.PK
set_option linter.unusedVariables false
set_option linter.unusedSimpArgs false
theorem ap25 : (Tryz.prog.info? 25).map (fun j => (j.zero, j.size, j.bytes)) = some (some (.agg #[.int .i64 0, .int .i64 0, .int .i64 0, .int .i64 0, .int .i64 0, .int .i64 0, .int .i64 0, .int .i64 0, .int .i64 0]), 9, 72) := by kernel_rfl

theorem lineR_okA (l : List Seg) (k : Nat) : (lineR l k).okA := by
  have z : in64 0 := by unfold in64; decide
  exact ⟨⟨atP_in _ _ _, z, (rrec_in64 _).1, (rrec_in64 _).2, atP_in _ _ _, atP_in _ _ _⟩, z, z, z⟩
theorem lineE_okA (l : List Seg) (k : Nat) : (lineE l k).okA := by
  have z : in64 0 := by unfold in64; decide
  exact ⟨⟨readP_in _, z, readP_in _, readP_in _, readP_in _, readP_in _⟩, z, z, z⟩
set_option maxRecDepth 100000 in
theorem c_rInvoice {v : Value} {ls : List PK.Ord} {D : Nat → Prop} (w : World) (hls : sliceRd tyOrd D w v ls)  :
    Calls Tryz.prog 17 #[v] w fun e w' => ∃ q, e = .returned q ∧ Later w w' ∧ sliceRd tySeg (fun b => w.heap.size ≤ b) w' q (invR ls) := by
  obtain ⟨A, cp, rfl, hlc, hmx, _⟩ := id hls
  refine enter (vs := [Value.slice A ls.length cp]) Tryz.func17 rfl Tryz.ntmps17 rfl ?_
  refine w_seq ?_
  refine rg_text ?_
  refine x_val rfl rfl rfl (v_assign rfl) ?_
  refine x_end ?_
  refine t_norm ?_
  refine w_seq ?_
  refine rg_text ?_
  refine x_val rfl rfl rfl (v_move rfl) ?_
  refine x_callb rfl rfl rfl Tryz.func45 (by kernel_rfl) rfl (fun w1 hw1 => c_Payable w1 (hls.keep (Kept.later (hw1.base (by simp))))) ?_
  intro b5 hb5
  refine x_val rfl rfl rfl (v_assign rfl) ?_
  refine x_end ?_
  refine t_norm ?_
  refine w_seq ?_
  refine w_seq ?_
  refine rg_text ?_
  refine x_val rfl rfl rfl (v_move rfl) ?_
  refine x_bool rfl rfl rfl (v_not rfl) ?_
  intro b7 hb7
  refine x_end ?_
  refine t_norm ?_
  refine w_cond rfl (fun hc7 => ?_) (fun hc7 => ?_)
  · have hno : ¬payP ls := by rw [hb7, hb5] at hc7; simpa using hc7
    refine w_seq ?_
    refine rg_text ?_
    refine x_val rfl rfl rfl (v_assign rfl) ?_
    refine x_end ?_
    refine t_norm ?_
    refine w_ret ?_
    refine t_ret ?_
    refine ret1 rfl rfl (fun w' hm => ?_)
    unfold invR
    rw [if_neg hno]
    exact ⟨_, rfl, hm.base (by simp), sliceRd_nil⟩
  · have hyes : payP ls := by rw [hb7, hb5] at hc7; simpa using hc7
    obtain ⟨_, y2, y3⟩ := id hyes
    obtain ⟨t1, t2⟩ := total_le y3
    refine w_skip ?_
    refine t_norm ?_
    refine w_seq ?_
    refine rg_text ?_
    refine x_val rfl rfl rfl (v_move rfl) ?_
    refine x_val rfl rfl rfl (v_move rfl) ?_
    refine x_callv rfl rfl rfl Tryz.func19 (by kernel_rfl) rfl (fun w1 hw1 => c_Total w1 (hls.keep (Kept.later (hw1.base (by simp)))) y3 (by omega)) ?_
    refine x_callv rfl rfl rfl Tryz.func21 (by kernel_rfl) rfl (fun w1 hw1 => c_Dec (totalP ls) w1 t1 (by unfold in64; omega)) ?_
    refine x_call (R := fun v wa wb => sliceRd tySeg (fun b => wa.heap.size ≤ b) wb v (withX ls (itoaS (totalP ls)))) rfl rfl rfl Tryz.func20 (by kernel_rfl) rfl (fun w1 hw1 => (c_With w1 (hls.keep (Kept.later (hw1.base (by simp)))) (itoaS (totalP ls)) y3 (by omega) (itoa_ok (by unfold in64; omega))).mono fun e w2 ⟨v, h1, h2, h3⟩ => ⟨_, h1, h2, h3⟩) ?_
    intro v12 wa12 wb12 hm12 hl12 hR12
    refine x_val rfl rfl rfl (v_assign rfl) ?_
    refine x_end ?_
    refine t_norm ?_
    refine w_ret ?_
    refine ret1 rfl rfl (fun w' hm => ?_)
    unfold invR
    rw [if_pos hyes]
    exact ⟨_, rfl, hm.base (by simp), hR12.keep (Kept.made0 hm hm12 (by simp) (by simp))⟩
set_option maxRecDepth 100000 in
theorem c_Orders {u v : Value} {xs ys : List PK.Ord} {D1 D2 : Nat → Prop} (w : World) (hx : sliceRd tyOrd D1 w u xs) (hy : sliceRd tyOrd D2 w v ys) :
    Calls Tryz.prog 25 #[u, v] w fun e w' => e = .returned (.bool (decide (xs = ys))) ∧ Later w w' := by
  obtain ⟨xA, xc, rfl, _, hxm, _⟩ := id hx
  obtain ⟨yA, yc, rfl, _, hym, _⟩ := id hy
  refine enter (vs := [Value.slice xA xs.length xc, Value.slice yA ys.length yc]) Tryz.func25 rfl Tryz.ntmps25 rfl ?_
  refine w_seq ?_
  refine rg_text ?_
  refine x_val rfl rfl rfl (v_assign rfl) ?_
  refine x_end ?_
  refine t_norm ?_
  refine w_seq ?_
  refine w_seq ?_
  refine rg_text ?_
  refine x_val rfl rfl rfl (v_move rfl) ?_
  refine x_val rfl rfl rfl (v_len_slice Tryz.underlying28 rfl) ?_
  refine x_val rfl rfl rfl (v_move rfl) ?_
  refine x_val rfl rfl rfl (v_len_slice Tryz.underlying28 rfl) ?_
  refine x_bool rfl rfl rfl (v_neq rfl rfl) ?_
  intro b10 hb10
  refine x_end ?_
  refine t_norm ?_
  refine w_cond rfl (fun hc10 => ?_) (fun hc10 => ?_)
  · have hno : ¬xs = ys := fun h => by rw [hb10, h] at hc10; simp at hc10
    refine w_seq ?_
    refine rg_text ?_
    refine x_val rfl rfl rfl (v_assign rfl) ?_
    refine x_end ?_
    refine t_norm ?_
    refine w_ret ?_
    refine t_ret ?_
    refine ret1 rfl rfl (fun w' hm => ⟨?_, hm.base (by simp)⟩)
    rw [decide_eq_false hno]
  · have hlen : xs.length = ys.length := by rw [hb10] at hc10; simp at hc10; omega
    refine w_skip ?_
    refine t_norm ?_
    refine w_seq ?_
    refine w_seq ?_
    refine rg_text ?_
    refine x_val rfl rfl rfl (v_assign rfl) ?_
    refine x_end ?_
    refine t_norm ?_
    refine w_block ?_
    refine w_loop (σ := Nat) (fun k => k ≤ xs.length ∧ xs.take k = ys.take k) (fun k => [(0, Value.slice xA xs.length xc), (1, Value.slice yA ys.length yc), (5, Value.int .i64 (k : Nat))]) (fun k => []) (fun k => [(w, fun _ => True)]) (fun k => xs.length - k) (0) (⟨Nat.zero_le _, rfl⟩) (l_start (by repeat (first | exact Sub.nil | refine Sub.cons rfl ?_)) (fun _ h => h)) ?_
    rintro k ⟨hk, heq⟩
    refine w_state ([(0, Value.slice xA xs.length xc), (1, Value.slice yA ys.length yc), (5, Value.int .i64 (k : Nat))]) ([]) ([(w, fun _ => True)]) ?_
    refine w_seq ?_
    refine w_seq ?_
    refine rg_text ?_
    refine x_val rfl rfl rfl (v_move rfl) ?_
    refine x_val rfl rfl rfl (v_move rfl) ?_
    refine x_val rfl rfl rfl (v_len_slice Tryz.underlying28 rfl) ?_
    refine x_bool rfl rfl rfl (v_lss rfl rfl) ?_
    intro b14 hb14
    refine x_end ?_
    refine t_norm ?_
    refine w_cond rfl (fun hc14 => ?_) (fun hc14 => ?_)
    · simp only [hb14, decide_eq_true_eq, decide_eq_false_iff_not, Bool.and_eq_true, Bool.or_eq_true, Bool.and_eq_false_iff, Bool.or_eq_false_iff, Bool.not_eq_true', Bool.not_eq_false', ne_eq, Decidable.not_not] at hc14
      have hk1 : k < xs.length := by omega
      have hk2 : k < ys.length := by omega
      obtain ⟨xb, xo, hxA, _, hxc, _⟩ := ord_at hx hk1
      obtain ⟨yb, yo, hyA, _, hyc, _⟩ := ord_at hy hk2
      refine w_skip ?_
      refine t_norm ?_
      refine w_seq ?_
      refine w_block ?_
      refine w_seq ?_
      refine rg_draw 9 [(true, 0), (true, 1), (true, 2), (true, 3), (true, 4), (true, 5), (true, 6), (true, 7), (true, 8)] (by kernel_rfl) (by kernel_rfl) ?_
      refine x_val rfl rfl rfl (v_move rfl) ?_
      refine x_val rfl rfl rfl (v_move rfl) ?_
      refine x_val rfl rfl rfl (v_indexAddr Tryz.underlying28 sz25 (congrArg (fun A => some (Value.slice A xs.length xc)) hxA) rfl (by first | omega | (dsimp only; omega)) rfl) ?_
      refine x_val rfl rfl rfl (v_loadN (vs := xs[k].cells) Tryz.underlying25 rfl sz25 rfl (fun j hj => at_ro (.head _) trivial (hxc j hj))) ?_
      refine x_val rfl rfl rfl (v_move rfl) ?_
      refine x_val rfl rfl rfl (v_move rfl) ?_
      refine x_val rfl rfl rfl (v_indexAddr Tryz.underlying28 sz25 (congrArg (fun A => some (Value.slice A ys.length yc)) hyA) rfl (by first | omega | (dsimp only; omega)) rfl) ?_
      refine x_val rfl rfl rfl (v_loadN (vs := ys[k].cells) Tryz.underlying25 rfl sz25 rfl (fun j hj => at_ro (.head _) trivial (hyc j hj))) ?_
      refine x_bool rfl rfl rfl (v_neA (by kernel_rfl) rfl rfl (fun w1 => eq25 w1 xs[k] ys[k])) ?_
      intro b25 hb25
      refine x_end ?_
      refine t_norm ?_
      refine w_cond rfl (fun hc25 => ?_) (fun hc25 => ?_)
      · have hno : ¬xs = ys := fun h => by
          subst h
          rw [hb25] at hc25; simp at hc25
        refine w_seq ?_
        refine rg_text ?_
        refine x_val rfl rfl rfl (v_assign rfl) ?_
        refine x_end ?_
        refine t_norm ?_
        refine w_ret ?_
        refine b_ret ?_
        refine t_ret ?_
        refine t_ret ?_
        refine b_ret ?_
        refine t_ret ?_
        refine ret1 rfl rfl (fun w' hm => ⟨?_, hm.base (by simp)⟩)
        rw [decide_eq_false hno]
      · have he : xs[k] = ys[k] := by rw [hb25] at hc25; simpa using hc25
        refine w_skip ?_
        refine b_norm ?_
        refine t_norm ?_
        refine rg_text ?_
        refine x_val rfl rfl rfl (v_move rfl) ?_
        refine x_val rfl rfl rfl (v_addi rfl rfl rfl (by first | omega | (dsimp only; omega))) ?_
        refine x_val rfl rfl rfl (v_assign rfl) ?_
        refine x_end ?_
        exact l_norm (k + 1) ⟨by omega, by rw [take_snoc hk1, take_snoc hk2, heq, he]⟩ (by omega) (by repeat (first | exact Sub.nil | refine Sub.cons rfl ?_)) (fun _ h => h)
    · simp only [hb14, decide_eq_true_eq, decide_eq_false_iff_not, Bool.and_eq_true, Bool.or_eq_true, Bool.and_eq_false_iff, Bool.or_eq_false_iff, Bool.not_eq_true', Bool.not_eq_false', ne_eq, Decidable.not_not] at hc14
      obtain rfl : k = xs.length := by omega
      rw [List.take_length, hlen, List.take_length] at heq
      refine w_exit ?_
      refine t_exit ?_
      refine t_exit ?_
      refine b_hit ?_
      refine t_norm ?_
      refine w_seq ?_
      refine rg_text ?_
      refine x_val rfl rfl rfl (v_assign rfl) ?_
      refine x_end ?_
      refine t_norm ?_
      refine w_ret ?_
      refine ret1 rfl rfl (fun w' hm => ⟨?_, hm.base (by simp)⟩)
      rw [decide_eq_true heq]
set_option maxHeartbeats 1000000 in
set_option maxRecDepth 100000 in
theorem c_rReadInvoice {v : Value} {l : List Seg} {D : Nat → Prop} (w : World) (hl : sliceRd tySeg D w v l) :
    Calls Tryz.prog 28 #[v] w fun e w' => ∃ q, e = .returned (.tuple #[q, .int .i64 (rrI l).2]) ∧ Later w w' ∧ sliceRd tyOrd (fun b => w.heap.size ≤ b) w' q (rrI l).1 := by
  obtain ⟨A, cp, rfl, hlc, hmx, _⟩ := id hl
  obtain ⟨sb, so, EA, ec, hS⟩ := seg_there hl (l.length - 2)
  obtain ⟨eb, eo, FA, fc, hE⟩ := els_there (K := l.length - 2 < l.length) (fun h => (hS h).2.2.2.2.2) 0
  have e4 : ((l.length : Nat) : Int).tmod 4 = ((l.length % 4 : Nat) : Int) := rfl
  refine enter (vs := [Value.slice A l.length cp]) Tryz.func28 rfl Tryz.ntmps28 rfl ?_
  refine w_seq ?_
  refine rg_text ?_
  refine x_val rfl rfl rfl (v_assign rfl) ?_
  refine x_val rfl rfl rfl (v_assign rfl) ?_
  refine x_end ?_
  refine t_norm ?_
  refine w_seq ?_
  refine w_seq ?_
  refine rg_text ?_
  refine x_val rfl rfl rfl (v_move rfl) ?_
  refine x_val rfl rfl rfl (v_len_slice Tryz.underlying29 rfl) ?_
  refine x_bool rfl rfl rfl (v_lss rfl rfl) ?_
  intro b21 hb21
  refine x_val rfl rfl rfl (v_move rfl) ?_
  refine x_if [] rfl rfl rfl rfl rfl (fun hg => by obtain ⟨hg0, _⟩ := hg; subst hg0; (try simp only [List.cons_append, List.nil_append, gvl_nil, gvl_t, gvl_f]); exact v_move rfl) ?_
  refine x_if [] rfl rfl rfl rfl rfl (fun hg => by obtain ⟨hg0, _⟩ := hg; subst hg0; (try simp only [List.cons_append, List.nil_append, gvl_nil, gvl_t, gvl_f]); exact v_len_slice Tryz.underlying29 rfl) ?_
  refine x_if [] rfl rfl rfl rfl rfl (fun hg => by obtain ⟨hg0, _⟩ := hg; subst hg0; (try simp only [List.cons_append, List.nil_append, gvl_nil, gvl_t, gvl_f]); exact v_rem rfl rfl (by decide)) ?_
  refine x_ifb [] rfl rfl rfl rfl rfl (fun hg => by obtain ⟨hg0, _⟩ := hg; subst hg0; (try simp only [List.cons_append, List.nil_append, gvl_nil, gvl_t, gvl_f]); exact v_neq rfl rfl) ?_
  intro b26 hb26
  refine x_bool rfl rfl rfl (v_or rfl rfl) ?_
  intro b27 hb27
  refine x_val rfl rfl rfl (v_move rfl) ?_
  refine x_if [] rfl rfl rfl rfl rfl (fun hg => by obtain ⟨hg0, _⟩ := hg; subst hg0; (try simp only [List.cons_append, List.nil_append, gvl_nil, gvl_t, gvl_f]); exact v_move rfl) ?_
  refine x_if [] rfl rfl rfl rfl rfl (fun hg => by obtain ⟨hg0, _⟩ := hg; subst hg0; (try simp only [List.cons_append, List.nil_append, gvl_nil, gvl_t, gvl_f]); exact v_len_slice Tryz.underlying29 rfl) ?_
  refine x_ifb [] rfl rfl rfl rfl rfl (fun hg => by obtain ⟨hg0, _⟩ := hg; subst hg0; (try simp only [List.cons_append, List.nil_append, gvl_nil, gvl_t, gvl_f]); exact v_gtr rfl rfl) ?_
  intro b31 hb31
  refine x_bool rfl rfl rfl (v_or rfl rfl) ?_
  intro b32 hb32
  refine x_end ?_
  refine t_norm ?_
  refine w_cond rfl (fun hc32 => ?_) (fun hc32 => ?_)
  · have hno : ¬okR l := fun ⟨⟨q1, q2, q3⟩, _⟩ => by
      rw [hb32, hb31, hb27, hb26, hb21, e4] at hc32
      simp only [Bool.or_eq_true, decide_eq_true_eq, ne_eq] at hc32
      omega
    refine w_seq ?_
    refine rg_text ?_
    refine x_val rfl rfl rfl (v_assign rfl) ?_
    refine x_val rfl rfl rfl (v_assign rfl) ?_
    refine x_end ?_
    refine t_norm ?_
    refine w_ret ?_
    refine t_ret ?_
    refine ret2 rfl rfl rfl (fun w' hm => ?_)
    rw [rrI_no hno]
    exact ⟨_, rfl, hm.base (by simp), sliceRd_nil⟩
  · have hsh : shapeR l := by
      rw [hb32, hb31, hb27, hb26, hb21, e4] at hc32
      simp only [Bool.or_eq_false_iff, decide_eq_false_iff_not, ne_eq, Decidable.not_not] at hc32
      unfold shapeR; omega
    obtain ⟨s1, s2, s3⟩ := id hsh
    have hcnt : 4 * cntR l + 5 = l.length := by unfold cntR; omega
    have h2 : l.length - 2 < l.length := by omega
    refine w_skip ?_
    refine t_norm ?_
    refine w_seq ?_
    refine rg_text ?_
    refine x_val rfl rfl rfl (v_assign rfl) ?_
    refine x_end ?_
    refine t_norm ?_
    refine w_seq ?_
    refine w_seq ?_
    refine rg_text ?_
    refine x_val rfl rfl rfl (v_assign rfl) ?_
    refine x_end ?_
    refine t_norm ?_
    refine w_block ?_
    refine w_loop (σ := Nat × RowS) (fun x => x.1 ≤ cntR l ∧ RowT tyOrd (fun _ => False) w x.2 ((List.range x.1).map (lineR l)) ∧ ∀ j, j < x.1 → lineOk l j) (fun x => [(0, Value.slice A l.length cp), (4, rowV x.2 x.1), (5, Value.int .i64 ((4 * x.1 + 2 : Nat) : Int))]) (fun x => rowO 25 x.2) (fun x => [(w, fun _ => True)]) (fun x => cntR l - x.1) ((0, none)) (⟨Nat.zero_le _, RowT.nil, fun j hj => absurd hj (Nat.not_lt_zero _)⟩) (l_start (by repeat (first | exact Sub.nil | refine Sub.cons rfl ?_)) (fun _ h => h)) ?_
    rintro ⟨k, R⟩ ⟨hk, hT, hoks⟩
    refine w_state ([(0, Value.slice A l.length cp), (4, rowV R k), (5, Value.int .i64 ((4 * k + 2 : Nat) : Int))]) (rowO 25 R) ([(w, fun _ => True)]) ?_
    dsimp only at hk hT hoks
    have hln : ((List.range k).map (lineR l)).length = k := by simp
    refine w_seq ?_
    refine w_seq ?_
    refine rg_text ?_
    refine x_val rfl rfl rfl (v_move rfl) ?_
    refine x_val rfl rfl rfl (v_move rfl) ?_
    refine x_val rfl rfl rfl (v_len_slice Tryz.underlying29 rfl) ?_
    refine x_val rfl rfl rfl (v_subi rfl rfl rfl (by omega)) ?_
    refine x_bool rfl rfl rfl (v_lss rfl rfl) ?_
    intro b37 hb37
    refine x_end ?_
    refine t_norm ?_
    refine w_cond rfl (fun hc37 => ?_) (fun hc37 => ?_)
    · simp only [hb37, decide_eq_true_eq, decide_eq_false_iff_not, Bool.and_eq_true, Bool.or_eq_true, Bool.and_eq_false_iff, Bool.or_eq_false_iff, Bool.not_eq_true', Bool.not_eq_false', ne_eq, Decidable.not_not] at hc37
      have hkc : k < cntR l := by omega
      refine w_skip ?_
      refine t_norm ?_
      refine w_seq ?_
      refine w_block ?_
      refine w_seq ?_
      refine rg_text ?_
      refine x_val rfl rfl rfl (v_move rfl) ?_
      refine x_val rfl rfl rfl (v_move rfl) ?_
      refine x_callv rfl rfl rfl Tryz.func57 (by kernel_rfl) rfl (fun w1 hw1 => c_rrec (4 * k + 2) w1 (hl.keep (Kept.later (hw1.base (by simp))))) ?_
      refine x_val rfl rfl rfl (v_move rfl) ?_
      refine x_val rfl rfl rfl (v_extract rfl rfl) ?_
      refine x_bool rfl rfl rfl (v_extract rfl rfl) ?_
      intro b45 hb45
      refine x_alloc rfl rfl rfl zr23 ?_
      intro p6
      refine x_store0 [] rfl rfl rfl rfl sz23 rfl rfl ?_
      refine x_val rfl rfl rfl (v_assign rfl) ?_
      refine x_end ?_
      refine t_norm ?_
      refine w_seq ?_
      refine rg_text ?_
      refine x_val rfl rfl rfl (v_move rfl) ?_
      refine x_val rfl rfl rfl (v_move rfl) ?_
      refine x_val rfl rfl rfl (v_addi (c := ((4 * k + 3 : Nat) : Int)) rfl rfl (by omega) (by omega)) ?_
      refine x_callv rfl rfl rfl Tryz.func58 (by kernel_rfl) rfl (fun w1 hw1 => c_at (4 * k + 3) 0 1 w1 (hl.keep (Kept.later (hw1.base (by simp))))) ?_
      refine x_val rfl rfl rfl (v_move rfl) ?_
      refine x_val rfl rfl rfl (v_extract rfl rfl) ?_
      refine x_bool rfl rfl rfl (v_extract rfl rfl) ?_
      intro b52 hb52
      refine x_val rfl rfl rfl (v_assign rfl) ?_
      refine x_val rfl rfl rfl (v_assign rfl) ?_
      refine x_end ?_
      refine t_norm ?_
      refine w_seq ?_
      refine rg_text ?_
      refine x_val rfl rfl rfl (v_move rfl) ?_
      refine x_val rfl rfl rfl (v_move rfl) ?_
      refine x_val rfl rfl rfl (v_addi (c := ((4 * k + 4 : Nat) : Int)) rfl rfl (by omega) (by omega)) ?_
      refine x_callv rfl rfl rfl Tryz.func58 (by kernel_rfl) rfl (fun w1 hw1 => c_at (4 * k + 4) 0 1 w1 (hl.keep (Kept.later (hw1.base (by simp))))) ?_
      refine x_val rfl rfl rfl (v_move rfl) ?_
      refine x_val rfl rfl rfl (v_extract rfl rfl) ?_
      refine x_bool rfl rfl rfl (v_extract rfl rfl) ?_
      intro b59 hb59
      refine x_val rfl rfl rfl (v_assign rfl) ?_
      refine x_val rfl rfl rfl (v_assign rfl) ?_
      refine x_end ?_
      refine t_norm ?_
      refine w_seq ?_
      refine rg_text ?_
      refine x_val rfl rfl rfl (v_move rfl) ?_
      refine x_val rfl rfl rfl (v_move rfl) ?_
      refine x_val rfl rfl rfl (v_addi (c := ((4 * k + 5 : Nat) : Int)) rfl rfl (by omega) (by omega)) ?_
      refine x_callv rfl rfl rfl Tryz.func58 (by kernel_rfl) rfl (fun w1 hw1 => c_at (4 * k + 5) 0 1 w1 (hl.keep (Kept.later (hw1.base (by simp))))) ?_
      refine x_val rfl rfl rfl (v_move rfl) ?_
      refine x_val rfl rfl rfl (v_extract rfl rfl) ?_
      refine x_bool rfl rfl rfl (v_extract rfl rfl) ?_
      intro b66 hb66
      refine x_val rfl rfl rfl (v_assign rfl) ?_
      refine x_val rfl rfl rfl (v_assign rfl) ?_
      refine x_end ?_
      refine t_norm ?_
      refine w_seq ?_
      refine w_seq ?_
      refine rg_text ?_
      refine x_val rfl rfl rfl (v_move rfl) ?_
      refine x_bool rfl rfl rfl (v_not rfl) ?_
      intro b68 hb68
      refine x_val rfl rfl rfl (v_move rfl) ?_
      refine x_if [] rfl rfl rfl rfl rfl (fun hg => by obtain ⟨hg0, _⟩ := hg; subst hg0; (try simp only [List.cons_append, List.nil_append, gvl_nil, gvl_t, gvl_f]); exact v_move rfl) ?_
      refine x_ifb [] rfl rfl rfl rfl rfl (fun hg => by obtain ⟨hg0, _⟩ := hg; subst hg0; (try simp only [List.cons_append, List.nil_append, gvl_nil, gvl_t, gvl_f]); exact v_not rfl) ?_
      intro b71 hb71
      refine x_bool rfl rfl rfl (v_or rfl rfl) ?_
      intro b72 hb72
      refine x_val rfl rfl rfl (v_move rfl) ?_
      refine x_if [] rfl rfl rfl rfl rfl (fun hg => by obtain ⟨hg0, _⟩ := hg; subst hg0; (try simp only [List.cons_append, List.nil_append, gvl_nil, gvl_t, gvl_f]); exact v_move rfl) ?_
      refine x_ifb [] rfl rfl rfl rfl rfl (fun hg => by obtain ⟨hg0, _⟩ := hg; subst hg0; (try simp only [List.cons_append, List.nil_append, gvl_nil, gvl_t, gvl_f]); exact v_not rfl) ?_
      intro b75 hb75
      refine x_bool rfl rfl rfl (v_or rfl rfl) ?_
      intro b76 hb76
      refine x_val rfl rfl rfl (v_move rfl) ?_
      refine x_if [] rfl rfl rfl rfl rfl (fun hg => by obtain ⟨hg0, _⟩ := hg; subst hg0; (try simp only [List.cons_append, List.nil_append, gvl_nil, gvl_t, gvl_f]); exact v_move rfl) ?_
      refine x_ifb [] rfl rfl rfl rfl rfl (fun hg => by obtain ⟨hg0, _⟩ := hg; subst hg0; (try simp only [List.cons_append, List.nil_append, gvl_nil, gvl_t, gvl_f]); exact v_not rfl) ?_
      intro b79 hb79
      refine x_bool rfl rfl rfl (v_or rfl rfl) ?_
      intro b80 hb80
      refine x_end ?_
      refine t_norm ?_
      refine w_cond rfl (fun hc80 => ?_) (fun hc80 => ?_)
      · have hno : ¬okR l := fun ⟨_, q, _⟩ => by
          obtain ⟨q1, q2, q3, q4⟩ := q k hkc
          rw [hb80, hb79, hb76, hb75, hb72, hb71, hb68, hb66, hb59, hb52, hb45, q1, q2, q3, q4] at hc80
          simp at hc80
        refine w_seq ?_
        refine rg_text ?_
        refine x_val rfl rfl rfl (v_assign rfl) ?_
        refine x_val rfl rfl rfl (v_assign rfl) ?_
        refine x_end ?_
        refine t_norm ?_
        refine w_ret ?_
        refine t_ret ?_
        refine b_ret ?_
        refine t_ret ?_
        refine t_ret ?_
        refine b_ret ?_
        refine t_ret ?_
        refine ret2 rfl rfl rfl (fun w' hm => ?_)
        rw [rrI_no hno]
        exact ⟨_, rfl, hm.base (by simp), sliceRd_nil⟩
      · have hok : lineOk l k := by
          rw [hb80, hb79, hb76, hb75, hb72, hb71, hb68, hb66, hb59, hb52, hb45] at hc80
          simp only [Bool.or_eq_false_iff, Bool.not_eq_false'] at hc80
          exact ⟨hc80.1.1.1, hc80.1.1.2, hc80.1.2, hc80.2⟩
        refine w_skip ?_
        refine t_norm ?_
        refine rg_text ?_
        refine x_val rfl rfl rfl (v_move rfl) ?_
        refine x_val rfl rfl rfl (v_move rfl) ?_
        refine x_val rfl rfl rfl (v_load_blk (e := 23) (fz := (0, 0)) (cs := [Value.int .i64 (rrec l (4 * k + 2)).1.1, .int .i64 (rrec l (4 * k + 2)).1.2].toArray) Tryz.underlying23 rfl rfl (.head _) sz23) ?_
        refine x_val rfl rfl rfl (v_move rfl) ?_
        refine x_val rfl rfl rfl (v_move rfl) ?_
        refine x_val rfl rfl rfl (v_buildL (places := [(0, 1), (1, 1), (2, 2), (4, 1), (5, 1), (6, 1), (7, 1), (8, 1)]) Tryz.underlying25 zr25 (by kernel_rfl) rfl rfl) ?_
        refine x_buildSliceL (cs := (lineR l k).cells) rfl rfl rfl Tryz.underlying28 sz25 zr25 rfl rfl rfl ?_
        intro p87
        obtain ⟨css, hcl, hrow, hrd⟩ := hT
        rw [hln] at hcl hrow
        refine x_append (e := 25) [(p87, Obj.cells (lineR l k).cells.toArray 25), (p6, Obj.cells [Value.int .i64 (rrec l (4 * k + 2)).1.1, .int .i64 (rrec l (4 * k + 2)).1.2].toArray 23)] (l2 := []) R (len := k) (xs := css.flatten) rfl rfl rfl rfl (by rw [List.append_nil]; rfl) hrow Tryz.underlying28 ap25 rfl rfl (m := 1) (news := (lineR l k).cells) (fun i hi => at_ownL (vs := (lineR l k).cells) (.head _) (by rw [Nat.zero_add]; exact List.getElem?_eq_getElem hi)) rfl (by simp only [maxLen]; omega) (by omega) ?_
        intro R' hR'
        refine x_val rfl rfl rfl (v_assign rfl) ?_
        refine x_end ?_
        refine b_norm ?_
        refine t_norm ?_
        refine rg_text ?_
        refine x_val rfl rfl rfl (v_move rfl) ?_
        refine x_val rfl rfl rfl (v_addi (c := ((4 * k + 6 : Nat) : Int)) rfl rfl (by omega) (by omega)) ?_
        refine x_val rfl rfl rfl (v_assign rfl) ?_
        refine x_end ?_
        rw [List.append_nil]
        exact l_norm (x := (k, R)) (μ := fun q : Nat × RowS => cntR l - q.1) (k + 1, R') ⟨by dsimp only; omega, by dsimp only; rw [range_snoc]; exact snocN hln hcl hrd hR' ⟨rfl, lineR_okA l k⟩, fun j hj => by rcases Nat.lt_succ_iff_lt_or_eq.1 hj with h | rfl; (· exact hoks j h); exact hok⟩ (by simp only; omega) (by dsimp only; rw [show 4 * (k + 1) + 2 = 4 * k + 6 by omega]; repeat (first | exact Sub.nil | refine Sub.cons rfl ?_)) (fun w1 h => h.less (List.sublist_append_right _ _) (fun _ h => h))
    · simp only [hb37, decide_eq_true_eq, decide_eq_false_iff_not, Bool.and_eq_true, Bool.or_eq_true, Bool.and_eq_false_iff, Bool.or_eq_false_iff, Bool.not_eq_true', Bool.not_eq_false', ne_eq, Decidable.not_not] at hc37
      obtain rfl : k = cntR l := by omega
      refine w_exit ?_
      refine t_exit ?_
      refine t_exit ?_
      refine b_hit ?_
      refine t_norm ?_
      refine w_seq ?_
      refine rg_text ?_
      refine x_val rfl rfl rfl (v_move rfl) ?_
      refine x_callb rfl rfl rfl Tryz.func45 (by kernel_rfl) rfl (fun w1 hw1 => c_Payable (ls := linesR l) w1 (hT.any (D' := fun _ => True) (e := 25) hw1 (fun q hq => hq) (fun _ _ => trivial) (by simp))) ?_
      intro b90 hb90
      refine x_val rfl rfl rfl (v_assign rfl) ?_
      refine x_end ?_
      refine t_norm ?_
      refine w_seq ?_
      refine rg_text ?_
      refine x_val rfl rfl rfl (v_move rfl) ?_
      refine x_val rfl rfl rfl (v_move rfl) ?_
      refine x_val rfl rfl rfl (v_len_slice Tryz.underlying29 rfl) ?_
      refine x_val rfl rfl rfl (v_subi (c := ((l.length - 2 : Nat) : Int)) rfl rfl (by omega) (by omega)) ?_
      refine x_val rfl rfl rfl (v_indexAddr Tryz.underlying29 sz49 (congrArg (fun A => some (Value.slice A l.length cp)) (hS h2).1) rfl (h2) rfl) ?_
      refine x_val rfl rfl rfl (v_loadN (vs := [Value.string (segD l (l.length - 2)).tag, .slice EA (segD l (l.length - 2)).els.length ec]) Tryz.underlying49 rfl sz49 rfl (fun j hj => at_ro (.head _) trivial (by match j, hj with | 0, _ => exact (hS h2).2.2.1 | 1, _ => exact (hS h2).2.2.2.1))) ?_
      refine x_alloc rfl rfl rfl zr49 ?_
      intro p15
      refine x_store0 [] rfl rfl rfl rfl sz49 rfl rfl ?_
      refine x_end ?_
      refine t_norm ?_
      refine w_seq ?_
      refine w_seq ?_
      refine rg_text ?_
      refine x_val rfl rfl rfl (v_move rfl) ?_
      refine x_bool rfl rfl rfl (v_not rfl) ?_
      intro b98 hb98
      refine x_val rfl rfl rfl (v_move rfl) ?_
      refine x_if [] rfl rfl rfl rfl rfl (fun hg => by obtain ⟨hg0, _⟩ := hg; subst hg0; (try simp only [List.cons_append, List.nil_append, gvl_nil, gvl_t, gvl_f]); exact v_fieldAddr (off' := 1) Tryz.underlying49 rfl sz47 (by decide) rfl rfl) ?_
      refine x_if [] rfl rfl rfl rfl rfl (fun hg => by obtain ⟨hg0, _⟩ := hg; subst hg0; (try simp only [List.cons_append, List.nil_append, gvl_nil, gvl_t, gvl_f]); exact v_load Tryz.underlying47 rfl rfl (at_ownL (vs := [Value.string (segD l (l.length - 2)).tag, .slice EA (segD l (l.length - 2)).els.length ec]) (.head _) rfl)) ?_
      refine x_if [] rfl rfl rfl rfl rfl (fun hg => by obtain ⟨hg0, _⟩ := hg; subst hg0; (try simp only [List.cons_append, List.nil_append, gvl_nil, gvl_t, gvl_f]); exact v_len_slice Tryz.underlying47 rfl) ?_
      refine x_ifb [] rfl rfl rfl rfl rfl (fun hg => by obtain ⟨hg0, _⟩ := hg; subst hg0; (try simp only [List.cons_append, List.nil_append, gvl_nil, gvl_t, gvl_f]); exact v_neq rfl rfl) ?_
      intro b103 hb103
      refine x_bool rfl rfl rfl (v_or rfl rfl) ?_
      intro b104 hb104
      refine x_val rfl rfl rfl (v_move rfl) ?_
      refine x_if [] rfl rfl rfl rfl rfl (fun hg => by obtain ⟨hg0, _⟩ := hg; subst hg0; (try simp only [List.cons_append, List.nil_append, gvl_nil, gvl_t, gvl_f]); exact v_fieldAddr (off' := 1) Tryz.underlying49 rfl sz47 (by decide) rfl rfl) ?_
      refine x_if [] rfl rfl rfl rfl rfl (fun hg => by obtain ⟨hg0, _⟩ := hg; subst hg0; (try simp only [List.cons_append, List.nil_append, gvl_nil, gvl_t, gvl_f]); exact v_load Tryz.underlying47 rfl rfl (at_ownL (vs := [Value.string (segD l (l.length - 2)).tag, .slice EA (segD l (l.length - 2)).els.length ec]) (.head _) rfl)) ?_
      refine x_if [] rfl rfl rfl rfl rfl (fun hg => by obtain ⟨hg0, _⟩ := hg; subst hg0; (try simp only [List.cons_append, List.nil_append, gvl_nil, gvl_t, gvl_f]); have h1 : (segD l (l.length - 2)).els.length = 1 := (by have h0 := hb104.symm; simp only [hb98, hb103, Bool.or_eq_false_iff, decide_eq_false_iff_not, ne_eq, Decidable.not_not] at h0; omega); exact v_indexAddr (j := 0) Tryz.underlying47 sz54 (congrArg (fun A => some (Value.slice A (segD l (l.length - 2)).els.length ec)) (hE h2 (by omega)).1) rfl (by omega) rfl) ?_
      refine x_if [] rfl rfl rfl rfl rfl (fun hg => by obtain ⟨hg0, _⟩ := hg; subst hg0; (try simp only [List.cons_append, List.nil_append, gvl_nil, gvl_t, gvl_f]); have h1 : (segD l (l.length - 2)).els.length = 1 := (by have h0 := hb104.symm; simp only [hb98, hb103, Bool.or_eq_false_iff, decide_eq_false_iff_not, ne_eq, Decidable.not_not] at h0; omega); exact v_load Tryz.underlying54 rfl rfl (at_ro (.head _) trivial (by rw [Nat.mul_one]; exact (hE h2 (by omega)).2.2.1))) ?_
      refine x_if [] rfl rfl rfl rfl rfl (fun hg => by obtain ⟨hg0, _⟩ := hg; subst hg0; (try simp only [List.cons_append, List.nil_append, gvl_nil, gvl_t, gvl_f]); exact v_len_slice Tryz.underlying54 rfl) ?_
      refine x_ifb [] rfl rfl rfl rfl rfl (fun hg => by obtain ⟨hg0, _⟩ := hg; subst hg0; (try simp only [List.cons_append, List.nil_append, gvl_nil, gvl_t, gvl_f]); exact v_neq rfl rfl) ?_
      intro b111 hb111
      refine x_bool rfl rfl rfl (v_or rfl rfl) ?_
      intro b112 hb112
      refine x_end ?_
      refine t_norm ?_
      refine w_cond rfl (fun hc112 => ?_) (fun hc112 => ?_)
      · have hno : ¬okR l := fun ⟨_, _, q1, q2, _⟩ => by
          obtain ⟨q3, q4⟩ := (moa_iff h2).1 q2
          rw [hb112, hb111, hb104, hb103, hb98, hb90, decide_eq_true q1] at hc112
          simp [q3, q4] at hc112
        refine w_seq ?_
        refine rg_text ?_
        refine x_val rfl rfl rfl (v_assign rfl) ?_
        refine x_val rfl rfl rfl (v_assign rfl) ?_
        refine x_end ?_
        refine t_norm ?_
        refine w_ret ?_
        refine t_ret ?_
        refine ret2 rfl rfl rfl (fun w' hm => ?_)
        rw [rrI_no hno]
        exact ⟨_, rfl, hm.base (by simp), sliceRd_nil⟩
      · have hall : payP (linesR l) ∧ (segD l (l.length - 2)).els.length = 1 ∧ (elsD (segD l (l.length - 2)).els 0).length = 2 := by
          rw [hb112, hb111, hb104, hb103, hb98, hb90] at hc112
          simp only [Bool.or_eq_false_iff, Bool.not_eq_false', decide_eq_true_eq, decide_eq_false_iff_not, ne_eq, Decidable.not_not] at hc112
          exact ⟨hc112.1.1, by omega, by omega⟩
        obtain ⟨hpay, m1, m2⟩ := hall
        obtain ⟨p1, p2, p3⟩ := id hpay
        have m0 : 0 < (segD l (l.length - 2)).els.length := by omega
        obtain ⟨e1, _, e3, e4'⟩ := hE h2 m0
        obtain ⟨fb, fo, f1, _, f3, fok⟩ := s_at e4' (k := 1) (by omega)
        have htot := totE_in h2 m0 (by omega)
        rw [← htot] at f3 fok
        refine w_skip ?_
        refine t_norm ?_
        refine w_seq ?_
        refine rg_text ?_
        refine x_val rfl rfl rfl (v_fieldAddr (off' := 1) Tryz.underlying49 rfl sz47 (by decide) rfl rfl) ?_
        refine x_val rfl rfl rfl (v_load Tryz.underlying47 rfl rfl (at_ownL (vs := [Value.string (segD l (l.length - 2)).tag, .slice EA (segD l (l.length - 2)).els.length ec]) (.head _) rfl)) ?_
        refine x_val rfl rfl rfl (v_indexAddr (j := 0) Tryz.underlying47 sz54 (congrArg (fun A => some (Value.slice A (segD l (l.length - 2)).els.length ec)) e1) rfl (by omega) rfl) ?_
        refine x_val rfl rfl rfl (v_load Tryz.underlying54 rfl rfl (at_ro (.head _) trivial (by rw [Nat.mul_one]; exact e3))) ?_
        refine x_val rfl rfl rfl (v_indexAddr (j := 1) Tryz.underlying54 sz9 (congrArg (fun A => some (Value.slice A (elsD (segD l (l.length - 2)).els 0).length fc)) f1) rfl (by omega) rfl) ?_
        refine x_val rfl rfl rfl (v_load Tryz.underlying9 rfl rfl (at_ro (.head _) trivial (by rw [Nat.mul_one]; exact f3))) ?_
        refine x_callv rfl rfl rfl Tryz.func59 (by kernel_rfl) rfl (fun w1 hw1 => c_value (totE l) 18 w1 (by decide)) ?_
        refine x_val rfl rfl rfl (v_move rfl) ?_
        refine x_val rfl rfl rfl (v_extract rfl rfl) ?_
        refine x_bool rfl rfl rfl (v_extract rfl rfl) ?_
        intro b122 hb122
        refine x_val rfl rfl rfl (v_assign rfl) ?_
        refine x_val rfl rfl rfl (v_assign rfl) ?_
        refine x_end ?_
        refine t_norm ?_
        refine w_seq ?_
        refine w_seq ?_
        refine rg_text ?_
        refine x_val rfl rfl rfl (v_move rfl) ?_
        refine x_bool rfl rfl rfl (v_not rfl) ?_
        intro b124 hb124
        refine x_end ?_
        refine t_norm ?_
        refine w_cond rfl (fun hc124 => ?_) (fun hc124 => ?_)
        · have hno : ¬okR l := fun ⟨_, _, _, _, q, _⟩ => by
            rw [hb124, hb122, q] at hc124
            cases hc124
          refine w_seq ?_
          refine rg_text ?_
          refine x_val rfl rfl rfl (v_assign rfl) ?_
          refine x_val rfl rfl rfl (v_assign rfl) ?_
          refine x_end ?_
          refine t_norm ?_
          refine w_ret ?_
          refine t_ret ?_
          refine ret2 rfl rfl rfl (fun w' hm => ?_)
          rw [rrI_no hno]
          exact ⟨_, rfl, hm.base (by simp), sliceRd_nil⟩
        · have hval : (valP (totE l) 18).2 = true := by rw [hb124, hb122] at hc124; simpa using hc124
          refine w_skip ?_
          refine t_norm ?_
          refine w_seq ?_
          refine rg_text ?_
          refine x_val rfl rfl rfl (v_move rfl) ?_
          refine x_val rfl rfl rfl (v_fieldAddr (off' := 1) Tryz.underlying49 rfl sz47 (by decide) rfl rfl) ?_
          refine x_val rfl rfl rfl (v_load Tryz.underlying47 rfl rfl (at_ownL (vs := [Value.string (segD l (l.length - 2)).tag, .slice EA (segD l (l.length - 2)).els.length ec]) (.head _) rfl)) ?_
          refine x_val rfl rfl rfl (v_indexAddr (j := 0) Tryz.underlying47 sz54 (congrArg (fun A => some (Value.slice A (segD l (l.length - 2)).els.length ec)) e1) rfl (by omega) rfl) ?_
          refine x_val rfl rfl rfl (v_load Tryz.underlying54 rfl rfl (at_ro (.head _) trivial (by rw [Nat.mul_one]; exact e3))) ?_
          refine x_val rfl rfl rfl (v_indexAddr (j := 1) Tryz.underlying54 sz9 (congrArg (fun A => some (Value.slice A (elsD (segD l (l.length - 2)).els 0).length fc)) f1) rfl (by omega) rfl) ?_
          refine x_val rfl rfl rfl (v_load Tryz.underlying9 rfl rfl (at_ro (.head _) trivial (by rw [Nat.mul_one]; exact f3))) ?_
          refine x_call (R := fun v wa wb => sliceRd tySeg (fun b => wa.heap.size ≤ b) wb v (withX (linesR l) (totE l))) rfl rfl rfl Tryz.func20 (by kernel_rfl) rfl (fun w1 hw1 => (c_With (ls := linesR l) w1 (hT.any (D' := fun _ => True) (e := 25) hw1 (fun q hq => List.mem_cons_of_mem _ hq) (fun _ _ => trivial) (by simp)) (totE l) p3 (by omega) fok).mono fun e w2 ⟨v, h1, h2, h3⟩ => ⟨_, h1, h2, h3⟩) ?_
          intro v132 wa132 wb132 hm132 hl132 hR132
          refine x_val rfl rfl rfl (v_move rfl) ?_
          refine x_callb rfl rfl rfl Tryz.func12 (by kernel_rfl) rfl (fun w1 hw1 => c_Same (xs := withX (linesR l) (totE l)) (ys := l) w1 (keep_new hR132 hw1 (by simp) hm132) (hl.keep (Kept.later (hw1.base (by simp))))) ?_
          intro b134 hb134
          refine x_val rfl rfl rfl (v_assign rfl) ?_
          refine x_end ?_
          refine t_norm ?_
          refine w_seq ?_
          refine w_seq ?_
          refine rg_text ?_
          refine x_val rfl rfl rfl (v_move rfl) ?_
          refine x_bool rfl rfl rfl (v_not rfl) ?_
          intro b136 hb136
          refine x_end ?_
          refine t_norm ?_
          refine w_cond rfl (fun hc136 => ?_) (fun hc136 => ?_)
          · have hno : ¬okR l := fun ⟨_, _, _, _, _, q⟩ => by
              rw [hb136, hb134, decide_eq_true q] at hc136
              cases hc136
            refine w_seq ?_
            refine rg_text ?_
            refine x_val rfl rfl rfl (v_assign rfl) ?_
            refine x_val rfl rfl rfl (v_assign rfl) ?_
            refine x_end ?_
            refine t_norm ?_
            refine w_ret ?_
            refine t_ret ?_
            refine ret2 rfl rfl rfl (fun w' hm => ?_)
            rw [rrI_no hno]
            exact ⟨_, rfl, hm.base (by simp), sliceRd_nil⟩
          · have hsame : withX (linesR l) (totE l) = l := by
              rw [hb136, hb134] at hc136
              simpa using hc136
            have hokr : okR l := ⟨hsh, hoks, hpay, (moa_iff h2).2 ⟨m1, m2⟩, hval, hsame⟩
            refine w_skip ?_
            refine t_norm ?_
            refine w_seq ?_
            refine w_seq ?_
            refine rg_text ?_
            refine x_val rfl rfl rfl (v_move rfl) ?_
            refine x_val rfl rfl rfl (v_move rfl) ?_
            refine x_callv rfl rfl rfl Tryz.func19 (by kernel_rfl) rfl (fun w1 hw1 => c_Total (ls := linesR l) w1 (hT.any (D' := fun _ => True) (e := 25) hw1 (fun q hq => List.mem_cons_of_mem _ hq) (fun _ _ => trivial) (by simp)) p3 (by omega)) ?_
            refine x_bool rfl rfl rfl (v_neq rfl rfl) ?_
            intro b140 hb140
            refine x_end ?_
            refine t_norm ?_
            refine w_cond rfl (fun hc140 => ?_) (fun hc140 => ?_)
            · simp only [hb140, decide_eq_true_eq, decide_eq_false_iff_not, Bool.and_eq_true, Bool.or_eq_true, Bool.and_eq_false_iff, Bool.or_eq_false_iff, Bool.not_eq_true', Bool.not_eq_false', ne_eq, Decidable.not_not] at hc140
              refine w_seq ?_
              refine rg_text ?_
              refine x_val rfl rfl rfl (v_assign rfl) ?_
              refine x_val rfl rfl rfl (v_assign rfl) ?_
              refine x_end ?_
              refine t_norm ?_
              refine w_ret ?_
              refine t_ret ?_
              refine ret2 rfl rfl rfl (fun w' hm => ?_)
              rw [show rrI l = ([], 60) from by
                unfold rrI; rw [if_pos hokr, if_neg]
                intro q; apply hc140; exact q]
              exact ⟨_, rfl, hm.base (by simp), sliceRd_nil⟩
            · simp only [hb140, decide_eq_true_eq, decide_eq_false_iff_not, Bool.and_eq_true, Bool.or_eq_true, Bool.and_eq_false_iff, Bool.or_eq_false_iff, Bool.not_eq_true', Bool.not_eq_false', ne_eq, Decidable.not_not] at hc140
              refine w_skip ?_
              refine t_norm ?_
              refine w_seq ?_
              refine rg_text ?_
              refine x_val rfl rfl rfl (v_move rfl) ?_
              refine x_val rfl rfl rfl (v_assign rfl) ?_
              refine x_val rfl rfl rfl (v_assign rfl) ?_
              refine x_end ?_
              refine t_norm ?_
              refine w_ret ?_
              refine ret2 rfl rfl rfl (fun w' hm => ?_)
              rw [show rrI l = (linesR l, 0) from by
                unfold rrI; rw [if_pos hokr, if_pos]
                exact hc140]
              exact ⟨_, rfl, hm.base (by simp), (hT.any (e := 25) hm (fun q hq => List.mem_cons_of_mem _ hq) (fun q hq => hm.newer (by simp) (List.mem_cons_of_mem _ hq)) (by simp))⟩

end Go.Proofs.YtbamklefagghcaaGreatDoor
