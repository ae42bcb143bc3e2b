/- Of the proofs of YtbamklefagghcaaGreatDoor: Wt Wu Wv Xa, put together. -/
import Derived.Test.YtbamklefagghcaaGreatDoorO4
import Derived.Test.YtbamklefagghcaaGreatDoorO2
import Derived.Test.YtbamklefagghcaaGreatDoorO1
import Derived.Test.YtbamklefagghcaaGreatDoorO3
namespace Go.Proofs.YtbamklefagghcaaGreatDoor
open Go.RowKit Go.PK
set_option linter.unusedVariables false
set_option linter.unusedSimpArgs false
theorem seg_out {tag : ByteArray} {u : Value} {e : Ending} {wa wb : World} {ys : List (List ByteArray)} {n : Nat} (h1 : e = .returned (.agg #[.string tag, u])) (h2 : Later wa wb) (h3 : sliceRd (tySlice tyStr) (fun b => wa.heap.size ≤ b) wb u ys) (hn : ys.length = n := by rfl) :
    ∃ v, e = .returned v ∧ Later wa wb ∧ ∃ A c, v = .agg #[.string tag, .slice A n c] ∧ sliceRd (tySlice tyStr) (fun b => wa.heap.size ≤ b) wb (.slice A n c) ys := by
  obtain ⟨A, c, rfl, hh⟩ := id h3
  subst hn
  exact ⟨_, h1, h2, A, c, rfl, h3⟩
theorem ok_of {s : ByteArray} (h : s.size ≤ 100) : okS s := by unfold okS; omega
set_option maxHeartbeats 4000000 in
set_option maxRecDepth 100000 in
theorem c_Order (o : Ord) (w : World) (hok : o.ok) (hL : LD w) :
    Calls Tryz.prog 11 #[.agg o.cells.toArray] w fun e w' => ∃ v, e = .returned v ∧ Later w w' ∧ sliceRd tySeg (fun b => w.heap.size ≤ b) w' v (orderR o) ∧ ((orderR o).length = 0 → v = .slice none 0 0) := by
  have y1 := itoaS_size hok.1
  have y2 := itoaS_size hok.2.1
  have y3 := itoaS_size hok.2.2.2.2.1
  have y4 := itoaS_size hok.2.2.2.2.2
  have y5 := artS_size hok.2.2.1 hok.2.2.2.1
  have z6 : ∀ s ∈ ([⟨#[49]⟩, ⟨#[79, 82, 68, 69, 82, 83, 58, 68, 58, 57, 54, 65, 58, 85, 78]⟩] : List ByteArray), s.size ≤ 100 := by
    intro s hs
    simp only [List.mem_cons, List.not_mem_nil, or_false] at hs
    first | (rcases hs with rfl | rfl | rfl) | (rcases hs with rfl | rfl) | (subst hs)
    all_goals (first | decide | omega | (rw [ByteArray.size_append]; show (⟨#[_, _, _, _]⟩ : ByteArray).size + _ ≤ 100; exact Nat.le_trans (Nat.add_le_add_left (by assumption) _) (by decide)) | (rw [ByteArray.size_append]; show (⟨#[_, _, _]⟩ : ByteArray).size + _ ≤ 100; exact Nat.le_trans (Nat.add_le_add_left (by assumption) _) (by decide)))
  have z11 : ∀ s ∈ ([⟨#[50, 50, 48]⟩, itoaS o.id] : List ByteArray), s.size ≤ 100 := by
    intro s hs
    simp only [List.mem_cons, List.not_mem_nil, or_false] at hs
    first | (rcases hs with rfl | rfl | rfl) | (rcases hs with rfl | rfl) | (subst hs)
    all_goals (first | decide | omega | (rw [ByteArray.size_append]; show (⟨#[_, _, _, _]⟩ : ByteArray).size + _ ≤ 100; exact Nat.le_trans (Nat.add_le_add_left (by assumption) _) (by decide)) | (rw [ByteArray.size_append]; show (⟨#[_, _, _]⟩ : ByteArray).size + _ ≤ 100; exact Nat.le_trans (Nat.add_le_add_left (by assumption) _) (by decide)))
  have z16 : ∀ s ∈ ([⟨#[49]⟩, ⟨#[]⟩, artS o.src o.num] : List ByteArray), s.size ≤ 100 := by
    intro s hs
    simp only [List.mem_cons, List.not_mem_nil, or_false] at hs
    first | (rcases hs with rfl | rfl | rfl) | (rcases hs with rfl | rfl) | (subst hs)
    all_goals (first | decide | omega | (rw [ByteArray.size_append]; show (⟨#[_, _, _, _]⟩ : ByteArray).size + _ ≤ 100; exact Nat.le_trans (Nat.add_le_add_left (by assumption) _) (by decide)) | (rw [ByteArray.size_append]; show (⟨#[_, _, _]⟩ : ByteArray).size + _ ≤ 100; exact Nat.le_trans (Nat.add_le_add_left (by assumption) _) (by decide)))
  have z22 : ∀ s ∈ ([(⟨#[50, 49, 58]⟩ : ByteArray) ++ itoaS o.copies] : List ByteArray), s.size ≤ 100 := by
    intro s hs
    simp only [List.mem_cons, List.not_mem_nil, or_false] at hs
    first | (rcases hs with rfl | rfl | rfl) | (rcases hs with rfl | rfl) | (subst hs)
    all_goals (first | decide | omega | (rw [ByteArray.size_append]; show (⟨#[_, _, _, _]⟩ : ByteArray).size + _ ≤ 100; exact Nat.le_trans (Nat.add_le_add_left (by assumption) _) (by decide)) | (rw [ByteArray.size_append]; show (⟨#[_, _, _]⟩ : ByteArray).size + _ ≤ 100; exact Nat.le_trans (Nat.add_le_add_left (by assumption) _) (by decide)))
  have z28 : ∀ s ∈ ([(⟨#[65, 65, 65, 58]⟩ : ByteArray) ++ itoaS o.price] : List ByteArray), s.size ≤ 100 := by
    intro s hs
    simp only [List.mem_cons, List.not_mem_nil, or_false] at hs
    first | (rcases hs with rfl | rfl | rfl) | (rcases hs with rfl | rfl) | (subst hs)
    all_goals (first | decide | omega | (rw [ByteArray.size_append]; show (⟨#[_, _, _, _]⟩ : ByteArray).size + _ ≤ 100; exact Nat.le_trans (Nat.add_le_add_left (by assumption) _) (by decide)) | (rw [ByteArray.size_append]; show (⟨#[_, _, _]⟩ : ByteArray).size + _ ≤ 100; exact Nat.le_trans (Nat.add_le_add_left (by assumption) _) (by decide)))
  have z34 : ∀ s ∈ ([(⟨#[66, 70, 78, 58]⟩ : ByteArray) ++ itoaS o.fund] : List ByteArray), s.size ≤ 100 := by
    intro s hs
    simp only [List.mem_cons, List.not_mem_nil, or_false] at hs
    first | (rcases hs with rfl | rfl | rfl) | (rcases hs with rfl | rfl) | (subst hs)
    all_goals (first | decide | omega | (rw [ByteArray.size_append]; show (⟨#[_, _, _, _]⟩ : ByteArray).size + _ ≤ 100; exact Nat.le_trans (Nat.add_le_add_left (by assumption) _) (by decide)) | (rw [ByteArray.size_append]; show (⟨#[_, _, _]⟩ : ByteArray).size + _ ≤ 100; exact Nat.le_trans (Nat.add_le_add_left (by assumption) _) (by decide)))
  have z36 : ∀ s ∈ ([⟨#[55]⟩, ⟨#[49]⟩] : List ByteArray), s.size ≤ 100 := by
    intro s hs
    simp only [List.mem_cons, List.not_mem_nil, or_false] at hs
    first | (rcases hs with rfl | rfl | rfl) | (rcases hs with rfl | rfl) | (subst hs)
    all_goals (first | decide | omega | (rw [ByteArray.size_append]; show (⟨#[_, _, _, _]⟩ : ByteArray).size + _ ≤ 100; exact Nat.le_trans (Nat.add_le_add_left (by assumption) _) (by decide)) | (rw [ByteArray.size_append]; show (⟨#[_, _, _]⟩ : ByteArray).size + _ ≤ 100; exact Nat.le_trans (Nat.add_le_add_left (by assumption) _) (by decide)))
  
  refine enter (vs := [.agg o.cells.toArray]) Tryz.func11 rfl Tryz.ntmps11 rfl ?_
  refine w_seq ?_
  refine rg_text ?_
  refine x_box rfl rfl rfl rfl ?_
  intro p1
  refine x_val rfl rfl rfl (v_assign rfl) ?_
  refine x_end ?_
  refine t_norm ?_
  refine w_seq ?_
  refine w_seq ?_
  refine rg_text ?_
  refine x_val rfl rfl rfl (v_load_blk (e := 25) (fz := (0, 0)) (cs := o.cells.toArray) Tryz.underlying25 rfl rfl (.head _) sz25) ?_
  refine x_callb rfl rfl rfl Tryz.func30 (by kernel_rfl) rfl (fun w1 hw1 => c_writable o w1 hok) ?_
  intro b4 hb4
  refine x_bool rfl rfl rfl (v_not rfl) ?_
  intro b5 hb5
  refine x_end ?_
  refine t_norm ?_
  refine w_cond rfl (fun hc5 => ?_) (fun hc5 => ?_)
  · have hw : writB o = false := by rw [hb5, hb4] at hc5; simpa using hc5
    refine w_seq ?_
    refine rg_text ?_
    refine x_val rfl rfl rfl (v_assign rfl) ?_
    refine x_end ?_
    refine t_norm ?_
    refine w_ret ?_
    refine t_ret ?_
    refine ret1 rfl rfl (fun w' hm => ?_)
    rw [show orderR o = [] from by unfold orderR; rw [hw]; rfl]; exact ⟨_, rfl, hm.base (by simp), sliceRd_nil, fun _ => rfl⟩
  · have hw : writB o = true := by rw [hb5, hb4] at hc5; simpa using hc5
    refine w_skip ?_
    refine t_norm ?_
    refine w_seq ?_
    refine rg_tree 34 (.flt 2 (.flt 3 (.flt 7 (.flt 8 (.flt 12 (.flt 13 (.flt 18 (.flt 19 (.flt 24 (.flt 25 (.gr 0 (.gr 1 (.flt 4 (.gr 5 (.gr 6 (.flt 9 (.gr 10 (.gr 11 (.flt 14 (.flt 15 (.gr 16 (.gr 17 (.flt 20 (.flt 21 (.gr 22 (.gr 23 (.flt 26 (.flt 27 (.gr 28 (.gr 29 (.gr 30 (.gr 31 (.gr 32 (.flt 33 .done) .nil) .nil) .nil) (.gr 30 (.gr 29 (.gr 31 (.gr 32 (.flt 33 .done) .nil) .nil) .nil) .nil)) (.gr 30 (.gr 28 (.gr 29 (.gr 31 (.gr 32 (.flt 33 .done) .nil) .nil) .nil) .nil) .nil)))) (.gr 30 (.gr 23 (.flt 26 (.flt 27 (.gr 28 (.gr 29 (.gr 31 (.gr 32 (.flt 33 .done) .nil) .nil) .nil) .nil))) .nil) .nil)) (.gr 30 (.gr 22 (.gr 23 (.flt 26 (.flt 27 (.gr 28 (.gr 29 (.gr 31 (.gr 32 (.flt 33 .done) .nil) .nil) .nil) .nil))) .nil) .nil) .nil)))) (.gr 30 (.gr 17 (.flt 20 (.flt 21 (.gr 22 (.gr 23 (.flt 26 (.flt 27 (.gr 28 (.gr 29 (.gr 31 (.gr 32 (.flt 33 .done) .nil) .nil) .nil) .nil))) .nil) .nil))) .nil) .nil)) (.gr 30 (.gr 16 (.gr 17 (.flt 20 (.flt 21 (.gr 22 (.gr 23 (.flt 26 (.flt 27 (.gr 28 (.gr 29 (.gr 31 (.gr 32 (.flt 33 .done) .nil) .nil) .nil) .nil))) .nil) .nil))) .nil) .nil) .nil)))) (.gr 30 (.gr 11 (.flt 14 (.flt 15 (.gr 16 (.gr 17 (.flt 20 (.flt 21 (.gr 22 (.gr 23 (.flt 26 (.flt 27 (.gr 28 (.gr 29 (.gr 31 (.gr 32 (.flt 33 .done) .nil) .nil) .nil) .nil))) .nil) .nil))) .nil) .nil))) .nil) .nil)) (.gr 30 (.gr 10 (.gr 11 (.flt 14 (.flt 15 (.gr 16 (.gr 17 (.flt 20 (.flt 21 (.gr 22 (.gr 23 (.flt 26 (.flt 27 (.gr 28 (.gr 29 (.gr 31 (.gr 32 (.flt 33 .done) .nil) .nil) .nil) .nil))) .nil) .nil))) .nil) .nil))) .nil) .nil) .nil))) (.gr 30 (.gr 6 (.flt 9 (.gr 10 (.gr 11 (.flt 14 (.flt 15 (.gr 16 (.gr 17 (.flt 20 (.flt 21 (.gr 22 (.gr 23 (.flt 26 (.flt 27 (.gr 28 (.gr 29 (.gr 31 (.gr 32 (.flt 33 .done) .nil) .nil) .nil) .nil))) .nil) .nil))) .nil) .nil))) .nil) .nil)) .nil) .nil)) (.gr 30 (.gr 5 (.gr 6 (.flt 9 (.gr 10 (.gr 11 (.flt 14 (.flt 15 (.gr 16 (.gr 17 (.flt 20 (.flt 21 (.gr 22 (.gr 23 (.flt 26 (.flt 27 (.gr 28 (.gr 29 (.gr 31 (.gr 32 (.flt 33 .done) .nil) .nil) .nil) .nil))) .nil) .nil))) .nil) .nil))) .nil) .nil)) .nil) .nil) .nil))) (.gr 30 (.gr 1 (.flt 4 (.gr 5 (.gr 6 (.flt 9 (.gr 10 (.gr 11 (.flt 14 (.flt 15 (.gr 16 (.gr 17 (.flt 20 (.flt 21 (.gr 22 (.gr 23 (.flt 26 (.flt 27 (.gr 28 (.gr 29 (.gr 31 (.gr 32 (.flt 33 .done) .nil) .nil) .nil) .nil))) .nil) .nil))) .nil) .nil))) .nil) .nil)) .nil) .nil)) .nil) .nil)) (.gr 30 (.gr 0 (.gr 1 (.flt 4 (.gr 5 (.gr 6 (.flt 9 (.gr 10 (.gr 11 (.flt 14 (.flt 15 (.gr 16 (.gr 17 (.flt 20 (.flt 21 (.gr 22 (.gr 23 (.flt 26 (.flt 27 (.gr 28 (.gr 29 (.gr 31 (.gr 32 (.flt 33 .done) .nil) .nil) .nil) .nil))) .nil) .nil))) .nil) .nil))) .nil) .nil)) .nil) .nil)) .nil) .nil) .nil)))))))))))) (by kernel_rfl) (by kernel_rfl) ?_
    refine t_flt (Q := fun _ _ _ => False) ?_
    refine x_val rfl rfl rfl (v_fieldAddr (off' := 0) Tryz.underlying25 rfl sz3 (by decide) rfl rfl) ?_
    refine x_end ?_
    refine t_flt (Q := fun _ _ _ => False) ?_
    refine x_val rfl rfl rfl (v_load Tryz.underlying3 rfl rfl (at_ownL (vs := o.cells) (by repeat (first | exact List.Mem.head _ | apply List.Mem.tail)) rfl)) ?_
    refine x_end ?_
    refine t_flt (Q := fun _ _ _ => False) ?_
    refine x_val rfl rfl rfl (v_fieldAddr (off' := 2) Tryz.underlying25 rfl sz23 (by decide) rfl rfl) ?_
    refine x_end ?_
    refine t_flt (Q := fun _ _ _ => False) ?_
    refine x_val rfl rfl rfl (v_loadN (vs := [Value.int .i64 o.src, .int .i64 o.num]) Tryz.underlying23 rfl sz23 rfl (fun j hj => at_ownL (vs := o.cells) (by repeat (first | exact List.Mem.head _ | apply List.Mem.tail)) (by match j, hj with | 0, _ => rfl | 1, _ => rfl))) ?_
    refine x_end ?_
    refine t_flt (Q := fun _ _ _ => False) ?_
    refine x_val rfl rfl rfl (v_fieldAddr (off' := 4) Tryz.underlying25 rfl sz3 (by decide) rfl rfl) ?_
    refine x_end ?_
    refine t_flt (Q := fun _ _ _ => False) ?_
    refine x_val rfl rfl rfl (v_load Tryz.underlying3 rfl rfl (at_ownL (vs := o.cells) (by repeat (first | exact List.Mem.head _ | apply List.Mem.tail)) rfl)) ?_
    refine x_end ?_
    refine t_flt (Q := fun _ _ _ => False) ?_
    refine x_val rfl rfl rfl (v_fieldAddr (off' := 5) Tryz.underlying25 rfl sz3 (by decide) rfl rfl) ?_
    refine x_end ?_
    refine t_flt (Q := fun _ _ _ => False) ?_
    refine x_val rfl rfl rfl (v_load Tryz.underlying3 rfl rfl (at_ownL (vs := o.cells) (by repeat (first | exact List.Mem.head _ | apply List.Mem.tail)) rfl)) ?_
    refine x_end ?_
    refine t_flt (Q := fun _ _ _ => False) ?_
    refine x_val rfl rfl rfl (v_fieldAddr (off' := 1) Tryz.underlying25 rfl sz3 (by decide) rfl rfl) ?_
    refine x_end ?_
    refine t_flt (Q := fun _ _ _ => False) ?_
    refine x_val rfl rfl rfl (v_load Tryz.underlying3 rfl rfl (at_ownL (vs := o.cells) (by repeat (first | exact List.Mem.head _ | apply List.Mem.tail)) rfl)) ?_
    refine x_end ?_
    refine t_gr (Q := fun _ _ _ => False) ?_ ?_
    · refine x_buildSliceL (cs := [Value.string (⟨#[49]⟩), Value.string (⟨#[79, 82, 68, 69, 82, 83, 58, 68, 58, 57, 54, 65, 58, 85, 78]⟩)]) rfl rfl rfl Tryz.underlying54 sz9 zr9 rfl rfl rfl ?_
      intro p6
      refine x_end ?_
      refine t_gr (Q := fun _ _ _ => False) ?_ ?_
      · refine x_call (R := fun v wa wb => ∃ A c, v = .agg #[.string ⟨#[85, 78, 72]⟩, .slice A 2 c] ∧ sliceRd (tySlice tyStr) (fun b => wa.heap.size ≤ b) wb (.slice A 2 c) [splitC (⟨#[49]⟩), splitC (⟨#[79, 82, 68, 69, 82, 83, 58, 68, 58, 57, 54, 65, 58, 85, 78]⟩)]) rfl rfl rfl Tryz.func31 (by kernel_rfl) rfl (fun w1 hw1 => (c_segment (es := [⟨#[49]⟩, ⟨#[79, 82, 68, 69, 82, 83, 58, 68, 58, 57, 54, 65, 58, 85, 78]⟩]) (D := fun _ => True) ⟨#[85, 78, 72]⟩ w1 (rowS_rd (e := 9) (r := some (p6, [Value.string (⟨#[49]⟩), Value.string (⟨#[79, 82, 68, 69, 82, 83, 58, 68, 58, 57, 54, 65, 58, 85, 78]⟩)], 2)) (n := 2) (rowOK_lit rfl (by decide)) rfl (fun s hs => ok_of (z6 s hs)) hw1 (fun q hq => by rw [List.mem_singleton.1 hq]; exact (by repeat (first | exact List.Mem.head _ | apply List.Mem.tail))) (fun _ _ => trivial)) (fun s hs => Nat.le_trans (z6 s hs) (by decide)) (by show 2 ≤ 1000; decide) (hL.later (hw1.base (by simp)))).mono fun e w2 ⟨u, h1, h2, h3⟩ => seg_out h1 h2 h3) ?_
        intro v7 wa7 wb7 hm7 hl7 hR7
        obtain ⟨A7, c7, rfl, hs7⟩ := hR7
        refine x_end ?_
        refine t_flt (Q := fun _ _ _ => False) ?_
        refine x_callv rfl rfl rfl Tryz.func32 (by kernel_rfl) rfl (fun w1 hw1 => c_number o.id w1 hok.1 (hL.later (hw1.base (by simp)))) ?_
        refine x_end ?_
        refine t_gr (Q := fun _ _ _ => False) ?_ ?_
        · refine x_buildSliceL (cs := [Value.string (⟨#[50, 50, 48]⟩), Value.string (itoaS o.id)]) rfl rfl rfl Tryz.underlying54 sz9 zr9 rfl rfl rfl ?_
          intro p11
          refine x_end ?_
          refine t_gr (Q := fun _ _ _ => False) ?_ ?_
          · refine x_call (R := fun v wa wb => ∃ A c, v = .agg #[.string ⟨#[66, 71, 77]⟩, .slice A 2 c] ∧ sliceRd (tySlice tyStr) (fun b => wa.heap.size ≤ b) wb (.slice A 2 c) [splitC (⟨#[50, 50, 48]⟩), splitC (itoaS o.id)]) rfl rfl rfl Tryz.func31 (by kernel_rfl) rfl (fun w1 hw1 => (c_segment (es := [⟨#[50, 50, 48]⟩, itoaS o.id]) (D := fun _ => True) ⟨#[66, 71, 77]⟩ w1 (rowS_rd (e := 9) (r := some (p11, [Value.string (⟨#[50, 50, 48]⟩), Value.string (itoaS o.id)], 2)) (n := 2) (rowOK_lit rfl (by decide)) rfl (fun s hs => ok_of (z11 s hs)) hw1 (fun q hq => by rw [List.mem_singleton.1 hq]; exact (by repeat (first | exact List.Mem.head _ | apply List.Mem.tail))) (fun _ _ => trivial)) (fun s hs => Nat.le_trans (z11 s hs) (by decide)) (by show 2 ≤ 1000; decide) (hL.later (hw1.base (by simp)))).mono fun e w2 ⟨u, h1, h2, h3⟩ => seg_out h1 h2 h3) ?_
            intro v12 wa12 wb12 hm12 hl12 hR12
            obtain ⟨A12, c12, rfl, hs12⟩ := hR12
            refine x_end ?_
            refine t_flt (Q := fun _ _ _ => False) ?_
            refine x_callv rfl rfl rfl Tryz.func33 (by kernel_rfl) rfl (fun w1 hw1 => c_article o.src o.num w1 hok.2.2.1 hok.2.2.2.1 (hL.later (hw1.base (by simp)))) ?_
            refine x_end ?_
            refine t_gr (Q := fun _ _ _ => False) ?_ ?_
            · refine x_buildSliceL (cs := [Value.string (⟨#[49]⟩), Value.string (⟨#[]⟩), Value.string (artS o.src o.num)]) rfl rfl rfl Tryz.underlying54 sz9 zr9 rfl rfl rfl ?_
              intro p16
              refine x_end ?_
              refine t_gr (Q := fun _ _ _ => False) ?_ ?_
              · refine x_call (R := fun v wa wb => ∃ A c, v = .agg #[.string ⟨#[76, 73, 78]⟩, .slice A 3 c] ∧ sliceRd (tySlice tyStr) (fun b => wa.heap.size ≤ b) wb (.slice A 3 c) [splitC (⟨#[49]⟩), splitC (⟨#[]⟩), splitC (artS o.src o.num)]) rfl rfl rfl Tryz.func31 (by kernel_rfl) rfl (fun w1 hw1 => (c_segment (es := [⟨#[49]⟩, ⟨#[]⟩, artS o.src o.num]) (D := fun _ => True) ⟨#[76, 73, 78]⟩ w1 (rowS_rd (e := 9) (r := some (p16, [Value.string (⟨#[49]⟩), Value.string (⟨#[]⟩), Value.string (artS o.src o.num)], 3)) (n := 3) (rowOK_lit rfl (by decide)) rfl (fun s hs => ok_of (z16 s hs)) hw1 (fun q hq => by rw [List.mem_singleton.1 hq]; exact (by repeat (first | exact List.Mem.head _ | apply List.Mem.tail))) (fun _ _ => trivial)) (fun s hs => Nat.le_trans (z16 s hs) (by decide)) (by show 3 ≤ 1000; decide) (hL.later (hw1.base (by simp)))).mono fun e w2 ⟨u, h1, h2, h3⟩ => seg_out h1 h2 h3) ?_
                intro v17 wa17 wb17 hm17 hl17 hR17
                obtain ⟨A17, c17, rfl, hs17⟩ := hR17
                refine x_end ?_
                refine t_flt (Q := fun _ _ _ => False) ?_
                refine x_callv rfl rfl rfl Tryz.func32 (by kernel_rfl) rfl (fun w1 hw1 => c_number o.copies w1 hok.2.2.2.2.1 (hL.later (hw1.base (by simp)))) ?_
                refine x_end ?_
                refine t_flt (Q := fun _ _ _ => False) ?_
                refine x_val rfl rfl rfl (v_sadd rfl rfl (by show 3 + (itoaS _).size ≤ _; omega)) ?_
                refine x_end ?_
                refine t_gr (Q := fun _ _ _ => False) ?_ ?_
                · refine x_buildSliceL (cs := [Value.string ((⟨#[50, 49, 58]⟩ : ByteArray) ++ itoaS o.copies)]) rfl rfl rfl Tryz.underlying54 sz9 zr9 rfl rfl rfl ?_
                  intro p22
                  refine x_end ?_
                  refine t_gr (Q := fun _ _ _ => False) ?_ ?_
                  · refine x_call (R := fun v wa wb => ∃ A c, v = .agg #[.string ⟨#[81, 84, 89]⟩, .slice A 1 c] ∧ sliceRd (tySlice tyStr) (fun b => wa.heap.size ≤ b) wb (.slice A 1 c) [splitC ((⟨#[50, 49, 58]⟩ : ByteArray) ++ itoaS o.copies)]) rfl rfl rfl Tryz.func31 (by kernel_rfl) rfl (fun w1 hw1 => (c_segment (es := [(⟨#[50, 49, 58]⟩ : ByteArray) ++ itoaS o.copies]) (D := fun _ => True) ⟨#[81, 84, 89]⟩ w1 (rowS_rd (e := 9) (r := some (p22, [Value.string ((⟨#[50, 49, 58]⟩ : ByteArray) ++ itoaS o.copies)], 1)) (n := 1) (rowOK_lit rfl (by decide)) rfl (fun s hs => ok_of (z22 s hs)) hw1 (fun q hq => by rw [List.mem_singleton.1 hq]; exact (by repeat (first | exact List.Mem.head _ | apply List.Mem.tail))) (fun _ _ => trivial)) (fun s hs => Nat.le_trans (z22 s hs) (by decide)) (by show 1 ≤ 1000; decide) (hL.later (hw1.base (by simp)))).mono fun e w2 ⟨u, h1, h2, h3⟩ => seg_out h1 h2 h3) ?_
                    intro v23 wa23 wb23 hm23 hl23 hR23
                    obtain ⟨A23, c23, rfl, hs23⟩ := hR23
                    refine x_end ?_
                    refine t_flt (Q := fun _ _ _ => False) ?_
                    refine x_callv rfl rfl rfl Tryz.func32 (by kernel_rfl) rfl (fun w1 hw1 => c_number o.price w1 hok.2.2.2.2.2 (hL.later (hw1.base (by simp)))) ?_
                    refine x_end ?_
                    refine t_flt (Q := fun _ _ _ => False) ?_
                    refine x_val rfl rfl rfl (v_sadd rfl rfl (by show 4 + (itoaS _).size ≤ _; omega)) ?_
                    refine x_end ?_
                    refine t_gr (Q := fun _ _ _ => False) ?_ ?_
                    · refine x_buildSliceL (cs := [Value.string ((⟨#[65, 65, 65, 58]⟩ : ByteArray) ++ itoaS o.price)]) rfl rfl rfl Tryz.underlying54 sz9 zr9 rfl rfl rfl ?_
                      intro p28
                      refine x_end ?_
                      refine t_gr (Q := fun _ _ _ => False) ?_ ?_
                      · refine x_call (R := fun v wa wb => ∃ A c, v = .agg #[.string ⟨#[80, 82, 73]⟩, .slice A 1 c] ∧ sliceRd (tySlice tyStr) (fun b => wa.heap.size ≤ b) wb (.slice A 1 c) [splitC ((⟨#[65, 65, 65, 58]⟩ : ByteArray) ++ itoaS o.price)]) rfl rfl rfl Tryz.func31 (by kernel_rfl) rfl (fun w1 hw1 => (c_segment (es := [(⟨#[65, 65, 65, 58]⟩ : ByteArray) ++ itoaS o.price]) (D := fun _ => True) ⟨#[80, 82, 73]⟩ w1 (rowS_rd (e := 9) (r := some (p28, [Value.string ((⟨#[65, 65, 65, 58]⟩ : ByteArray) ++ itoaS o.price)], 1)) (n := 1) (rowOK_lit rfl (by decide)) rfl (fun s hs => ok_of (z28 s hs)) hw1 (fun q hq => by rw [List.mem_singleton.1 hq]; exact (by repeat (first | exact List.Mem.head _ | apply List.Mem.tail))) (fun _ _ => trivial)) (fun s hs => Nat.le_trans (z28 s hs) (by decide)) (by show 1 ≤ 1000; decide) (hL.later (hw1.base (by simp)))).mono fun e w2 ⟨u, h1, h2, h3⟩ => seg_out h1 h2 h3) ?_
                        intro v29 wa29 wb29 hm29 hl29 hR29
                        obtain ⟨A29, c29, rfl, hs29⟩ := hR29
                        refine x_end ?_
                        refine t_flt (Q := fun _ _ _ => False) ?_
                        refine x_callv rfl rfl rfl Tryz.func32 (by kernel_rfl) rfl (fun w1 hw1 => c_number o.fund w1 hok.2.1 (hL.later (hw1.base (by simp)))) ?_
                        refine x_end ?_
                        refine t_flt (Q := fun _ _ _ => False) ?_
                        refine x_val rfl rfl rfl (v_sadd rfl rfl (by show 4 + (itoaS _).size ≤ _; omega)) ?_
                        refine x_end ?_
                        refine t_gr (Q := fun _ _ _ => False) ?_ ?_
                        · refine x_buildSliceL (cs := [Value.string ((⟨#[66, 70, 78, 58]⟩ : ByteArray) ++ itoaS o.fund)]) rfl rfl rfl Tryz.underlying54 sz9 zr9 rfl rfl rfl ?_
                          intro p34
                          refine x_end ?_
                          refine t_gr (Q := fun _ _ _ => False) ?_ ?_
                          · refine x_call (R := fun v wa wb => ∃ A c, v = .agg #[.string ⟨#[82, 70, 70]⟩, .slice A 1 c] ∧ sliceRd (tySlice tyStr) (fun b => wa.heap.size ≤ b) wb (.slice A 1 c) [splitC ((⟨#[66, 70, 78, 58]⟩ : ByteArray) ++ itoaS o.fund)]) rfl rfl rfl Tryz.func31 (by kernel_rfl) rfl (fun w1 hw1 => (c_segment (es := [(⟨#[66, 70, 78, 58]⟩ : ByteArray) ++ itoaS o.fund]) (D := fun _ => True) ⟨#[82, 70, 70]⟩ w1 (rowS_rd (e := 9) (r := some (p34, [Value.string ((⟨#[66, 70, 78, 58]⟩ : ByteArray) ++ itoaS o.fund)], 1)) (n := 1) (rowOK_lit rfl (by decide)) rfl (fun s hs => ok_of (z34 s hs)) hw1 (fun q hq => by rw [List.mem_singleton.1 hq]; exact (by repeat (first | exact List.Mem.head _ | apply List.Mem.tail))) (fun _ _ => trivial)) (fun s hs => Nat.le_trans (z34 s hs) (by decide)) (by show 1 ≤ 1000; decide) (hL.later (hw1.base (by simp)))).mono fun e w2 ⟨u, h1, h2, h3⟩ => seg_out h1 h2 h3) ?_
                            intro v35 wa35 wb35 hm35 hl35 hR35
                            obtain ⟨A35, c35, rfl, hs35⟩ := hR35
                            refine x_end ?_
                            refine t_gr (Q := fun _ _ _ => False) ?_ t_nil
                            refine x_buildSliceL (cs := [Value.string (⟨#[55]⟩), Value.string (⟨#[49]⟩)]) rfl rfl rfl Tryz.underlying54 sz9 zr9 rfl rfl rfl ?_
                            intro p36
                            refine x_end ?_
                            refine t_gr (Q := fun _ _ _ => False) ?_ t_nil
                            refine x_call (R := fun v wa wb => ∃ A c, v = .agg #[.string ⟨#[85, 78, 84]⟩, .slice A 2 c] ∧ sliceRd (tySlice tyStr) (fun b => wa.heap.size ≤ b) wb (.slice A 2 c) [splitC (⟨#[55]⟩), splitC (⟨#[49]⟩)]) rfl rfl rfl Tryz.func31 (by kernel_rfl) rfl (fun w1 hw1 => (c_segment (es := [⟨#[55]⟩, ⟨#[49]⟩]) (D := fun _ => True) ⟨#[85, 78, 84]⟩ w1 (rowS_rd (e := 9) (r := some (p36, [Value.string (⟨#[55]⟩), Value.string (⟨#[49]⟩)], 2)) (n := 2) (rowOK_lit rfl (by decide)) rfl (fun s hs => ok_of (z36 s hs)) hw1 (fun q hq => by rw [List.mem_singleton.1 hq]; exact (by repeat (first | exact List.Mem.head _ | apply List.Mem.tail))) (fun _ _ => trivial)) (fun s hs => Nat.le_trans (z36 s hs) (by decide)) (by show 2 ≤ 1000; decide) (hL.later (hw1.base (by simp)))).mono fun e w2 ⟨u, h1, h2, h3⟩ => seg_out h1 h2 h3) ?_
                            intro v37 wa37 wb37 hm37 hl37 hR37
                            obtain ⟨A37, c37, rfl, hs37⟩ := hR37
                            refine x_end ?_
                            refine t_gr (Q := fun _ _ _ => False) ?_ t_nil
                            refine x_buildSliceL (cs := ([[Value.string ⟨#[85, 78, 72]⟩, .slice A7 2 c7], [Value.string ⟨#[66, 71, 77]⟩, .slice A12 2 c12], [Value.string ⟨#[76, 73, 78]⟩, .slice A17 3 c17], [Value.string ⟨#[81, 84, 89]⟩, .slice A23 1 c23], [Value.string ⟨#[80, 82, 73]⟩, .slice A29 1 c29], [Value.string ⟨#[82, 70, 70]⟩, .slice A35 1 c35], [Value.string ⟨#[85, 78, 84]⟩, .slice A37 2 c37]] : List (List Value)).flatten) rfl rfl rfl Tryz.underlying29 sz49 zr49 rfl rfl rfl ?_
                            intro p38
                            refine x_end ?_
                            refine t_flt (Q := fun _ _ _ => False) ?_
                            refine x_val rfl rfl rfl (v_assign rfl) ?_
                            refine x_end ?_
                            refine t_done ?_
                            refine x_end ?_
                            refine t_norm ?_
                            refine w_ret ?_
                            refine ret1 rfl rfl (fun w' hm => ?_)
                            rw [show orderR o = orderP o from by unfold orderR; rw [if_pos hw]]
                            exact ⟨_, rfl, hm.base (by simp), RdAll.rd (e := 49) (css := [[Value.string ⟨#[85, 78, 72]⟩, .slice A7 2 c7], [Value.string ⟨#[66, 71, 77]⟩, .slice A12 2 c12], [Value.string ⟨#[76, 73, 78]⟩, .slice A17 3 c17], [Value.string ⟨#[81, 84, 89]⟩, .slice A23 1 c23], [Value.string ⟨#[80, 82, 73]⟩, .slice A29 1 c29], [Value.string ⟨#[82, 70, 70]⟩, .slice A35 1 c35], [Value.string ⟨#[85, 78, 84]⟩, .slice A37 2 c37]]) (xs := orderP o) (.cons (tySeg_mk (x := ⟨⟨#[85, 78, 72]⟩, [splitC (⟨#[49]⟩), splitC (⟨#[79, 82, 68, 69, 82, 83, 58, 68, 58, 57, 54, 65, 58, 85, 78]⟩)]⟩) rfl (show (3 : Nat) ≤ 9223372036854775807 by decide) (hs7.keep (Kept.made hm (by repeat (first | exact List.Mem.head _ | apply List.Mem.tail)) hm7 (hm7.base (by simp)).size))) (.cons (tySeg_mk (x := ⟨⟨#[66, 71, 77]⟩, [splitC (⟨#[50, 50, 48]⟩), splitC (itoaS o.id)]⟩) rfl (show (3 : Nat) ≤ 9223372036854775807 by decide) (hs12.keep (Kept.made hm (by repeat (first | exact List.Mem.head _ | apply List.Mem.tail)) hm12 (hm12.base (by simp)).size))) (.cons (tySeg_mk (x := ⟨⟨#[76, 73, 78]⟩, [splitC (⟨#[49]⟩), splitC (⟨#[]⟩), splitC (artS o.src o.num)]⟩) rfl (show (3 : Nat) ≤ 9223372036854775807 by decide) (hs17.keep (Kept.made hm (by repeat (first | exact List.Mem.head _ | apply List.Mem.tail)) hm17 (hm17.base (by simp)).size))) (.cons (tySeg_mk (x := ⟨⟨#[81, 84, 89]⟩, [splitC ((⟨#[50, 49, 58]⟩ : ByteArray) ++ itoaS o.copies)]⟩) rfl (show (3 : Nat) ≤ 9223372036854775807 by decide) (hs23.keep (Kept.made hm (by repeat (first | exact List.Mem.head _ | apply List.Mem.tail)) hm23 (hm23.base (by simp)).size))) (.cons (tySeg_mk (x := ⟨⟨#[80, 82, 73]⟩, [splitC ((⟨#[65, 65, 65, 58]⟩ : ByteArray) ++ itoaS o.price)]⟩) rfl (show (3 : Nat) ≤ 9223372036854775807 by decide) (hs29.keep (Kept.made hm (by repeat (first | exact List.Mem.head _ | apply List.Mem.tail)) hm29 (hm29.base (by simp)).size))) (.cons (tySeg_mk (x := ⟨⟨#[82, 70, 70]⟩, [splitC ((⟨#[66, 70, 78, 58]⟩ : ByteArray) ++ itoaS o.fund)]⟩) rfl (show (3 : Nat) ≤ 9223372036854775807 by decide) (hs35.keep (Kept.made hm (by repeat (first | exact List.Mem.head _ | apply List.Mem.tail)) hm35 (hm35.base (by simp)).size))) (.cons (tySeg_mk (x := ⟨⟨#[85, 78, 84]⟩, [splitC (⟨#[55]⟩), splitC (⟨#[49]⟩)]⟩) rfl (show (3 : Nat) ≤ 9223372036854775807 by decide) (hs37.keep (Kept.made hm (by repeat (first | exact List.Mem.head _ | apply List.Mem.tail)) hm37 (hm37.base (by simp)).size))) (.nil)))))))) hm (.head _) (by repeat (first | exact List.Mem.head _ | apply List.Mem.tail)) rfl (show (7 : Nat) ≤ maxLen by decide), fun h => absurd (show (7 : Nat) = 0 from h) (by decide)⟩
                          refine t_gr (Q := fun _ _ _ => False) ?_ t_nil
                          refine x_buildSliceL (cs := [Value.string (⟨#[55]⟩), Value.string (⟨#[49]⟩)]) rfl rfl rfl Tryz.underlying54 sz9 zr9 rfl rfl rfl ?_
                          intro p36
                          refine x_end ?_
                          refine t_gr (Q := fun _ _ _ => False) ?_ t_nil
                          refine x_call (R := fun v wa wb => ∃ A c, v = .agg #[.string ⟨#[82, 70, 70]⟩, .slice A 1 c] ∧ sliceRd (tySlice tyStr) (fun b => wa.heap.size ≤ b) wb (.slice A 1 c) [splitC ((⟨#[66, 70, 78, 58]⟩ : ByteArray) ++ itoaS o.fund)]) rfl rfl rfl Tryz.func31 (by kernel_rfl) rfl (fun w1 hw1 => (c_segment (es := [(⟨#[66, 70, 78, 58]⟩ : ByteArray) ++ itoaS o.fund]) (D := fun _ => True) ⟨#[82, 70, 70]⟩ w1 (rowS_rd (e := 9) (r := some (p34, [Value.string ((⟨#[66, 70, 78, 58]⟩ : ByteArray) ++ itoaS o.fund)], 1)) (n := 1) (rowOK_lit rfl (by decide)) rfl (fun s hs => ok_of (z34 s hs)) hw1 (fun q hq => by rw [List.mem_singleton.1 hq]; exact (by repeat (first | exact List.Mem.head _ | apply List.Mem.tail))) (fun _ _ => trivial)) (fun s hs => Nat.le_trans (z34 s hs) (by decide)) (by show 1 ≤ 1000; decide) (hL.later (hw1.base (by simp)))).mono fun e w2 ⟨u, h1, h2, h3⟩ => seg_out h1 h2 h3) ?_
                          intro v35 wa35 wb35 hm35 hl35 hR35
                          obtain ⟨A35, c35, rfl, hs35⟩ := hR35
                          refine x_end ?_
                          refine t_gr (Q := fun _ _ _ => False) ?_ t_nil
                          refine x_call (R := fun v wa wb => ∃ A c, v = .agg #[.string ⟨#[85, 78, 84]⟩, .slice A 2 c] ∧ sliceRd (tySlice tyStr) (fun b => wa.heap.size ≤ b) wb (.slice A 2 c) [splitC (⟨#[55]⟩), splitC (⟨#[49]⟩)]) rfl rfl rfl Tryz.func31 (by kernel_rfl) rfl (fun w1 hw1 => (c_segment (es := [⟨#[55]⟩, ⟨#[49]⟩]) (D := fun _ => True) ⟨#[85, 78, 84]⟩ w1 (rowS_rd (e := 9) (r := some (p36, [Value.string (⟨#[55]⟩), Value.string (⟨#[49]⟩)], 2)) (n := 2) (rowOK_lit rfl (by decide)) rfl (fun s hs => ok_of (z36 s hs)) hw1 (fun q hq => by rw [List.mem_singleton.1 hq]; exact (by repeat (first | exact List.Mem.head _ | apply List.Mem.tail))) (fun _ _ => trivial)) (fun s hs => Nat.le_trans (z36 s hs) (by decide)) (by show 2 ≤ 1000; decide) (hL.later (hw1.base (by simp)))).mono fun e w2 ⟨u, h1, h2, h3⟩ => seg_out h1 h2 h3) ?_
                          intro v37 wa37 wb37 hm37 hl37 hR37
                          obtain ⟨A37, c37, rfl, hs37⟩ := hR37
                          refine x_end ?_
                          refine t_gr (Q := fun _ _ _ => False) ?_ t_nil
                          refine x_buildSliceL (cs := ([[Value.string ⟨#[85, 78, 72]⟩, .slice A7 2 c7], [Value.string ⟨#[66, 71, 77]⟩, .slice A12 2 c12], [Value.string ⟨#[76, 73, 78]⟩, .slice A17 3 c17], [Value.string ⟨#[81, 84, 89]⟩, .slice A23 1 c23], [Value.string ⟨#[80, 82, 73]⟩, .slice A29 1 c29], [Value.string ⟨#[82, 70, 70]⟩, .slice A35 1 c35], [Value.string ⟨#[85, 78, 84]⟩, .slice A37 2 c37]] : List (List Value)).flatten) rfl rfl rfl Tryz.underlying29 sz49 zr49 rfl rfl rfl ?_
                          intro p38
                          refine x_end ?_
                          refine t_flt (Q := fun _ _ _ => False) ?_
                          refine x_val rfl rfl rfl (v_assign rfl) ?_
                          refine x_end ?_
                          refine t_done ?_
                          refine x_end ?_
                          refine t_norm ?_
                          refine w_ret ?_
                          refine ret1 rfl rfl (fun w' hm => ?_)
                          rw [show orderR o = orderP o from by unfold orderR; rw [if_pos hw]]
                          exact ⟨_, rfl, hm.base (by simp), RdAll.rd (e := 49) (css := [[Value.string ⟨#[85, 78, 72]⟩, .slice A7 2 c7], [Value.string ⟨#[66, 71, 77]⟩, .slice A12 2 c12], [Value.string ⟨#[76, 73, 78]⟩, .slice A17 3 c17], [Value.string ⟨#[81, 84, 89]⟩, .slice A23 1 c23], [Value.string ⟨#[80, 82, 73]⟩, .slice A29 1 c29], [Value.string ⟨#[82, 70, 70]⟩, .slice A35 1 c35], [Value.string ⟨#[85, 78, 84]⟩, .slice A37 2 c37]]) (xs := orderP o) (.cons (tySeg_mk (x := ⟨⟨#[85, 78, 72]⟩, [splitC (⟨#[49]⟩), splitC (⟨#[79, 82, 68, 69, 82, 83, 58, 68, 58, 57, 54, 65, 58, 85, 78]⟩)]⟩) rfl (show (3 : Nat) ≤ 9223372036854775807 by decide) (hs7.keep (Kept.made hm (by repeat (first | exact List.Mem.head _ | apply List.Mem.tail)) hm7 (hm7.base (by simp)).size))) (.cons (tySeg_mk (x := ⟨⟨#[66, 71, 77]⟩, [splitC (⟨#[50, 50, 48]⟩), splitC (itoaS o.id)]⟩) rfl (show (3 : Nat) ≤ 9223372036854775807 by decide) (hs12.keep (Kept.made hm (by repeat (first | exact List.Mem.head _ | apply List.Mem.tail)) hm12 (hm12.base (by simp)).size))) (.cons (tySeg_mk (x := ⟨⟨#[76, 73, 78]⟩, [splitC (⟨#[49]⟩), splitC (⟨#[]⟩), splitC (artS o.src o.num)]⟩) rfl (show (3 : Nat) ≤ 9223372036854775807 by decide) (hs17.keep (Kept.made hm (by repeat (first | exact List.Mem.head _ | apply List.Mem.tail)) hm17 (hm17.base (by simp)).size))) (.cons (tySeg_mk (x := ⟨⟨#[81, 84, 89]⟩, [splitC ((⟨#[50, 49, 58]⟩ : ByteArray) ++ itoaS o.copies)]⟩) rfl (show (3 : Nat) ≤ 9223372036854775807 by decide) (hs23.keep (Kept.made hm (by repeat (first | exact List.Mem.head _ | apply List.Mem.tail)) hm23 (hm23.base (by simp)).size))) (.cons (tySeg_mk (x := ⟨⟨#[80, 82, 73]⟩, [splitC ((⟨#[65, 65, 65, 58]⟩ : ByteArray) ++ itoaS o.price)]⟩) rfl (show (3 : Nat) ≤ 9223372036854775807 by decide) (hs29.keep (Kept.made hm (by repeat (first | exact List.Mem.head _ | apply List.Mem.tail)) hm29 (hm29.base (by simp)).size))) (.cons (tySeg_mk (x := ⟨⟨#[82, 70, 70]⟩, [splitC ((⟨#[66, 70, 78, 58]⟩ : ByteArray) ++ itoaS o.fund)]⟩) rfl (show (3 : Nat) ≤ 9223372036854775807 by decide) (hs35.keep (Kept.made hm (by repeat (first | exact List.Mem.head _ | apply List.Mem.tail)) hm35 (hm35.base (by simp)).size))) (.cons (tySeg_mk (x := ⟨⟨#[85, 78, 84]⟩, [splitC (⟨#[55]⟩), splitC (⟨#[49]⟩)]⟩) rfl (show (3 : Nat) ≤ 9223372036854775807 by decide) (hs37.keep (Kept.made hm (by repeat (first | exact List.Mem.head _ | apply List.Mem.tail)) hm37 (hm37.base (by simp)).size))) (.nil)))))))) hm (.head _) (by repeat (first | exact List.Mem.head _ | apply List.Mem.tail)) rfl (show (7 : Nat) ≤ maxLen by decide), fun h => absurd (show (7 : Nat) = 0 from h) (by decide)⟩
                        refine t_gr (Q := fun _ _ _ => False) ?_ t_nil
                        refine x_buildSliceL (cs := [Value.string (⟨#[55]⟩), Value.string (⟨#[49]⟩)]) rfl rfl rfl Tryz.underlying54 sz9 zr9 rfl rfl rfl ?_
                        intro p36
                        refine x_end ?_
                        refine t_gr (Q := fun _ _ _ => False) ?_ t_nil
                        refine x_buildSliceL (cs := [Value.string ((⟨#[66, 70, 78, 58]⟩ : ByteArray) ++ itoaS o.fund)]) rfl rfl rfl Tryz.underlying54 sz9 zr9 rfl rfl rfl ?_
                        intro p34
                        refine x_end ?_
                        refine t_gr (Q := fun _ _ _ => False) ?_ t_nil
                        refine x_call (R := fun v wa wb => ∃ A c, v = .agg #[.string ⟨#[82, 70, 70]⟩, .slice A 1 c] ∧ sliceRd (tySlice tyStr) (fun b => wa.heap.size ≤ b) wb (.slice A 1 c) [splitC ((⟨#[66, 70, 78, 58]⟩ : ByteArray) ++ itoaS o.fund)]) rfl rfl rfl Tryz.func31 (by kernel_rfl) rfl (fun w1 hw1 => (c_segment (es := [(⟨#[66, 70, 78, 58]⟩ : ByteArray) ++ itoaS o.fund]) (D := fun _ => True) ⟨#[82, 70, 70]⟩ w1 (rowS_rd (e := 9) (r := some (p34, [Value.string ((⟨#[66, 70, 78, 58]⟩ : ByteArray) ++ itoaS o.fund)], 1)) (n := 1) (rowOK_lit rfl (by decide)) rfl (fun s hs => ok_of (z34 s hs)) hw1 (fun q hq => by rw [List.mem_singleton.1 hq]; exact (by repeat (first | exact List.Mem.head _ | apply List.Mem.tail))) (fun _ _ => trivial)) (fun s hs => Nat.le_trans (z34 s hs) (by decide)) (by show 1 ≤ 1000; decide) (hL.later (hw1.base (by simp)))).mono fun e w2 ⟨u, h1, h2, h3⟩ => seg_out h1 h2 h3) ?_
                        intro v35 wa35 wb35 hm35 hl35 hR35
                        obtain ⟨A35, c35, rfl, hs35⟩ := hR35
                        refine x_end ?_
                        refine t_gr (Q := fun _ _ _ => False) ?_ t_nil
                        refine x_call (R := fun v wa wb => ∃ A c, v = .agg #[.string ⟨#[85, 78, 84]⟩, .slice A 2 c] ∧ sliceRd (tySlice tyStr) (fun b => wa.heap.size ≤ b) wb (.slice A 2 c) [splitC (⟨#[55]⟩), splitC (⟨#[49]⟩)]) rfl rfl rfl Tryz.func31 (by kernel_rfl) rfl (fun w1 hw1 => (c_segment (es := [⟨#[55]⟩, ⟨#[49]⟩]) (D := fun _ => True) ⟨#[85, 78, 84]⟩ w1 (rowS_rd (e := 9) (r := some (p36, [Value.string (⟨#[55]⟩), Value.string (⟨#[49]⟩)], 2)) (n := 2) (rowOK_lit rfl (by decide)) rfl (fun s hs => ok_of (z36 s hs)) hw1 (fun q hq => by rw [List.mem_singleton.1 hq]; exact (by repeat (first | exact List.Mem.head _ | apply List.Mem.tail))) (fun _ _ => trivial)) (fun s hs => Nat.le_trans (z36 s hs) (by decide)) (by show 2 ≤ 1000; decide) (hL.later (hw1.base (by simp)))).mono fun e w2 ⟨u, h1, h2, h3⟩ => seg_out h1 h2 h3) ?_
                        intro v37 wa37 wb37 hm37 hl37 hR37
                        obtain ⟨A37, c37, rfl, hs37⟩ := hR37
                        refine x_end ?_
                        refine t_gr (Q := fun _ _ _ => False) ?_ t_nil
                        refine x_buildSliceL (cs := ([[Value.string ⟨#[85, 78, 72]⟩, .slice A7 2 c7], [Value.string ⟨#[66, 71, 77]⟩, .slice A12 2 c12], [Value.string ⟨#[76, 73, 78]⟩, .slice A17 3 c17], [Value.string ⟨#[81, 84, 89]⟩, .slice A23 1 c23], [Value.string ⟨#[80, 82, 73]⟩, .slice A29 1 c29], [Value.string ⟨#[82, 70, 70]⟩, .slice A35 1 c35], [Value.string ⟨#[85, 78, 84]⟩, .slice A37 2 c37]] : List (List Value)).flatten) rfl rfl rfl Tryz.underlying29 sz49 zr49 rfl rfl rfl ?_
                        intro p38
                        refine x_end ?_
                        refine t_flt (Q := fun _ _ _ => False) ?_
                        refine x_val rfl rfl rfl (v_assign rfl) ?_
                        refine x_end ?_
                        refine t_done ?_
                        refine x_end ?_
                        refine t_norm ?_
                        refine w_ret ?_
                        refine ret1 rfl rfl (fun w' hm => ?_)
                        rw [show orderR o = orderP o from by unfold orderR; rw [if_pos hw]]
                        exact ⟨_, rfl, hm.base (by simp), RdAll.rd (e := 49) (css := [[Value.string ⟨#[85, 78, 72]⟩, .slice A7 2 c7], [Value.string ⟨#[66, 71, 77]⟩, .slice A12 2 c12], [Value.string ⟨#[76, 73, 78]⟩, .slice A17 3 c17], [Value.string ⟨#[81, 84, 89]⟩, .slice A23 1 c23], [Value.string ⟨#[80, 82, 73]⟩, .slice A29 1 c29], [Value.string ⟨#[82, 70, 70]⟩, .slice A35 1 c35], [Value.string ⟨#[85, 78, 84]⟩, .slice A37 2 c37]]) (xs := orderP o) (.cons (tySeg_mk (x := ⟨⟨#[85, 78, 72]⟩, [splitC (⟨#[49]⟩), splitC (⟨#[79, 82, 68, 69, 82, 83, 58, 68, 58, 57, 54, 65, 58, 85, 78]⟩)]⟩) rfl (show (3 : Nat) ≤ 9223372036854775807 by decide) (hs7.keep (Kept.made hm (by repeat (first | exact List.Mem.head _ | apply List.Mem.tail)) hm7 (hm7.base (by simp)).size))) (.cons (tySeg_mk (x := ⟨⟨#[66, 71, 77]⟩, [splitC (⟨#[50, 50, 48]⟩), splitC (itoaS o.id)]⟩) rfl (show (3 : Nat) ≤ 9223372036854775807 by decide) (hs12.keep (Kept.made hm (by repeat (first | exact List.Mem.head _ | apply List.Mem.tail)) hm12 (hm12.base (by simp)).size))) (.cons (tySeg_mk (x := ⟨⟨#[76, 73, 78]⟩, [splitC (⟨#[49]⟩), splitC (⟨#[]⟩), splitC (artS o.src o.num)]⟩) rfl (show (3 : Nat) ≤ 9223372036854775807 by decide) (hs17.keep (Kept.made hm (by repeat (first | exact List.Mem.head _ | apply List.Mem.tail)) hm17 (hm17.base (by simp)).size))) (.cons (tySeg_mk (x := ⟨⟨#[81, 84, 89]⟩, [splitC ((⟨#[50, 49, 58]⟩ : ByteArray) ++ itoaS o.copies)]⟩) rfl (show (3 : Nat) ≤ 9223372036854775807 by decide) (hs23.keep (Kept.made hm (by repeat (first | exact List.Mem.head _ | apply List.Mem.tail)) hm23 (hm23.base (by simp)).size))) (.cons (tySeg_mk (x := ⟨⟨#[80, 82, 73]⟩, [splitC ((⟨#[65, 65, 65, 58]⟩ : ByteArray) ++ itoaS o.price)]⟩) rfl (show (3 : Nat) ≤ 9223372036854775807 by decide) (hs29.keep (Kept.made hm (by repeat (first | exact List.Mem.head _ | apply List.Mem.tail)) hm29 (hm29.base (by simp)).size))) (.cons (tySeg_mk (x := ⟨⟨#[82, 70, 70]⟩, [splitC ((⟨#[66, 70, 78, 58]⟩ : ByteArray) ++ itoaS o.fund)]⟩) rfl (show (3 : Nat) ≤ 9223372036854775807 by decide) (hs35.keep (Kept.made hm (by repeat (first | exact List.Mem.head _ | apply List.Mem.tail)) hm35 (hm35.base (by simp)).size))) (.cons (tySeg_mk (x := ⟨⟨#[85, 78, 84]⟩, [splitC (⟨#[55]⟩), splitC (⟨#[49]⟩)]⟩) rfl (show (3 : Nat) ≤ 9223372036854775807 by decide) (hs37.keep (Kept.made hm (by repeat (first | exact List.Mem.head _ | apply List.Mem.tail)) hm37 (hm37.base (by simp)).size))) (.nil)))))))) hm (.head _) (by repeat (first | exact List.Mem.head _ | apply List.Mem.tail)) rfl (show (7 : Nat) ≤ maxLen by decide), fun h => absurd (show (7 : Nat) = 0 from h) (by decide)⟩
                      refine t_gr (Q := fun _ _ _ => False) ?_ t_nil
                      refine x_buildSliceL (cs := [Value.string (⟨#[55]⟩), Value.string (⟨#[49]⟩)]) rfl rfl rfl Tryz.underlying54 sz9 zr9 rfl rfl rfl ?_
                      intro p36
                      refine x_end ?_
                      refine t_gr (Q := fun _ _ _ => False) ?_ t_nil
                      refine x_call (R := fun v wa wb => ∃ A c, v = .agg #[.string ⟨#[80, 82, 73]⟩, .slice A 1 c] ∧ sliceRd (tySlice tyStr) (fun b => wa.heap.size ≤ b) wb (.slice A 1 c) [splitC ((⟨#[65, 65, 65, 58]⟩ : ByteArray) ++ itoaS o.price)]) rfl rfl rfl Tryz.func31 (by kernel_rfl) rfl (fun w1 hw1 => (c_segment (es := [(⟨#[65, 65, 65, 58]⟩ : ByteArray) ++ itoaS o.price]) (D := fun _ => True) ⟨#[80, 82, 73]⟩ w1 (rowS_rd (e := 9) (r := some (p28, [Value.string ((⟨#[65, 65, 65, 58]⟩ : ByteArray) ++ itoaS o.price)], 1)) (n := 1) (rowOK_lit rfl (by decide)) rfl (fun s hs => ok_of (z28 s hs)) hw1 (fun q hq => by rw [List.mem_singleton.1 hq]; exact (by repeat (first | exact List.Mem.head _ | apply List.Mem.tail))) (fun _ _ => trivial)) (fun s hs => Nat.le_trans (z28 s hs) (by decide)) (by show 1 ≤ 1000; decide) (hL.later (hw1.base (by simp)))).mono fun e w2 ⟨u, h1, h2, h3⟩ => seg_out h1 h2 h3) ?_
                      intro v29 wa29 wb29 hm29 hl29 hR29
                      obtain ⟨A29, c29, rfl, hs29⟩ := hR29
                      refine x_end ?_
                      refine t_flt (Q := fun _ _ _ => False) ?_
                      refine x_callv rfl rfl rfl Tryz.func32 (by kernel_rfl) rfl (fun w1 hw1 => c_number o.fund w1 hok.2.1 (hL.later (hw1.base (by simp)))) ?_
                      refine x_end ?_
                      refine t_flt (Q := fun _ _ _ => False) ?_
                      refine x_val rfl rfl rfl (v_sadd rfl rfl (by show 4 + (itoaS _).size ≤ _; omega)) ?_
                      refine x_end ?_
                      refine t_gr (Q := fun _ _ _ => False) ?_ t_nil
                      refine x_buildSliceL (cs := [Value.string ((⟨#[66, 70, 78, 58]⟩ : ByteArray) ++ itoaS o.fund)]) rfl rfl rfl Tryz.underlying54 sz9 zr9 rfl rfl rfl ?_
                      intro p34
                      refine x_end ?_
                      refine t_gr (Q := fun _ _ _ => False) ?_ t_nil
                      refine x_call (R := fun v wa wb => ∃ A c, v = .agg #[.string ⟨#[82, 70, 70]⟩, .slice A 1 c] ∧ sliceRd (tySlice tyStr) (fun b => wa.heap.size ≤ b) wb (.slice A 1 c) [splitC ((⟨#[66, 70, 78, 58]⟩ : ByteArray) ++ itoaS o.fund)]) rfl rfl rfl Tryz.func31 (by kernel_rfl) rfl (fun w1 hw1 => (c_segment (es := [(⟨#[66, 70, 78, 58]⟩ : ByteArray) ++ itoaS o.fund]) (D := fun _ => True) ⟨#[82, 70, 70]⟩ w1 (rowS_rd (e := 9) (r := some (p34, [Value.string ((⟨#[66, 70, 78, 58]⟩ : ByteArray) ++ itoaS o.fund)], 1)) (n := 1) (rowOK_lit rfl (by decide)) rfl (fun s hs => ok_of (z34 s hs)) hw1 (fun q hq => by rw [List.mem_singleton.1 hq]; exact (by repeat (first | exact List.Mem.head _ | apply List.Mem.tail))) (fun _ _ => trivial)) (fun s hs => Nat.le_trans (z34 s hs) (by decide)) (by show 1 ≤ 1000; decide) (hL.later (hw1.base (by simp)))).mono fun e w2 ⟨u, h1, h2, h3⟩ => seg_out h1 h2 h3) ?_
                      intro v35 wa35 wb35 hm35 hl35 hR35
                      obtain ⟨A35, c35, rfl, hs35⟩ := hR35
                      refine x_end ?_
                      refine t_gr (Q := fun _ _ _ => False) ?_ t_nil
                      refine x_call (R := fun v wa wb => ∃ A c, v = .agg #[.string ⟨#[85, 78, 84]⟩, .slice A 2 c] ∧ sliceRd (tySlice tyStr) (fun b => wa.heap.size ≤ b) wb (.slice A 2 c) [splitC (⟨#[55]⟩), splitC (⟨#[49]⟩)]) rfl rfl rfl Tryz.func31 (by kernel_rfl) rfl (fun w1 hw1 => (c_segment (es := [⟨#[55]⟩, ⟨#[49]⟩]) (D := fun _ => True) ⟨#[85, 78, 84]⟩ w1 (rowS_rd (e := 9) (r := some (p36, [Value.string (⟨#[55]⟩), Value.string (⟨#[49]⟩)], 2)) (n := 2) (rowOK_lit rfl (by decide)) rfl (fun s hs => ok_of (z36 s hs)) hw1 (fun q hq => by rw [List.mem_singleton.1 hq]; exact (by repeat (first | exact List.Mem.head _ | apply List.Mem.tail))) (fun _ _ => trivial)) (fun s hs => Nat.le_trans (z36 s hs) (by decide)) (by show 2 ≤ 1000; decide) (hL.later (hw1.base (by simp)))).mono fun e w2 ⟨u, h1, h2, h3⟩ => seg_out h1 h2 h3) ?_
                      intro v37 wa37 wb37 hm37 hl37 hR37
                      obtain ⟨A37, c37, rfl, hs37⟩ := hR37
                      refine x_end ?_
                      refine t_gr (Q := fun _ _ _ => False) ?_ t_nil
                      refine x_buildSliceL (cs := ([[Value.string ⟨#[85, 78, 72]⟩, .slice A7 2 c7], [Value.string ⟨#[66, 71, 77]⟩, .slice A12 2 c12], [Value.string ⟨#[76, 73, 78]⟩, .slice A17 3 c17], [Value.string ⟨#[81, 84, 89]⟩, .slice A23 1 c23], [Value.string ⟨#[80, 82, 73]⟩, .slice A29 1 c29], [Value.string ⟨#[82, 70, 70]⟩, .slice A35 1 c35], [Value.string ⟨#[85, 78, 84]⟩, .slice A37 2 c37]] : List (List Value)).flatten) rfl rfl rfl Tryz.underlying29 sz49 zr49 rfl rfl rfl ?_
                      intro p38
                      refine x_end ?_
                      refine t_flt (Q := fun _ _ _ => False) ?_
                      refine x_val rfl rfl rfl (v_assign rfl) ?_
                      refine x_end ?_
                      refine t_done ?_
                      refine x_end ?_
                      refine t_norm ?_
                      refine w_ret ?_
                      refine ret1 rfl rfl (fun w' hm => ?_)
                      rw [show orderR o = orderP o from by unfold orderR; rw [if_pos hw]]
                      exact ⟨_, rfl, hm.base (by simp), RdAll.rd (e := 49) (css := [[Value.string ⟨#[85, 78, 72]⟩, .slice A7 2 c7], [Value.string ⟨#[66, 71, 77]⟩, .slice A12 2 c12], [Value.string ⟨#[76, 73, 78]⟩, .slice A17 3 c17], [Value.string ⟨#[81, 84, 89]⟩, .slice A23 1 c23], [Value.string ⟨#[80, 82, 73]⟩, .slice A29 1 c29], [Value.string ⟨#[82, 70, 70]⟩, .slice A35 1 c35], [Value.string ⟨#[85, 78, 84]⟩, .slice A37 2 c37]]) (xs := orderP o) (.cons (tySeg_mk (x := ⟨⟨#[85, 78, 72]⟩, [splitC (⟨#[49]⟩), splitC (⟨#[79, 82, 68, 69, 82, 83, 58, 68, 58, 57, 54, 65, 58, 85, 78]⟩)]⟩) rfl (show (3 : Nat) ≤ 9223372036854775807 by decide) (hs7.keep (Kept.made hm (by repeat (first | exact List.Mem.head _ | apply List.Mem.tail)) hm7 (hm7.base (by simp)).size))) (.cons (tySeg_mk (x := ⟨⟨#[66, 71, 77]⟩, [splitC (⟨#[50, 50, 48]⟩), splitC (itoaS o.id)]⟩) rfl (show (3 : Nat) ≤ 9223372036854775807 by decide) (hs12.keep (Kept.made hm (by repeat (first | exact List.Mem.head _ | apply List.Mem.tail)) hm12 (hm12.base (by simp)).size))) (.cons (tySeg_mk (x := ⟨⟨#[76, 73, 78]⟩, [splitC (⟨#[49]⟩), splitC (⟨#[]⟩), splitC (artS o.src o.num)]⟩) rfl (show (3 : Nat) ≤ 9223372036854775807 by decide) (hs17.keep (Kept.made hm (by repeat (first | exact List.Mem.head _ | apply List.Mem.tail)) hm17 (hm17.base (by simp)).size))) (.cons (tySeg_mk (x := ⟨⟨#[81, 84, 89]⟩, [splitC ((⟨#[50, 49, 58]⟩ : ByteArray) ++ itoaS o.copies)]⟩) rfl (show (3 : Nat) ≤ 9223372036854775807 by decide) (hs23.keep (Kept.made hm (by repeat (first | exact List.Mem.head _ | apply List.Mem.tail)) hm23 (hm23.base (by simp)).size))) (.cons (tySeg_mk (x := ⟨⟨#[80, 82, 73]⟩, [splitC ((⟨#[65, 65, 65, 58]⟩ : ByteArray) ++ itoaS o.price)]⟩) rfl (show (3 : Nat) ≤ 9223372036854775807 by decide) (hs29.keep (Kept.made hm (by repeat (first | exact List.Mem.head _ | apply List.Mem.tail)) hm29 (hm29.base (by simp)).size))) (.cons (tySeg_mk (x := ⟨⟨#[82, 70, 70]⟩, [splitC ((⟨#[66, 70, 78, 58]⟩ : ByteArray) ++ itoaS o.fund)]⟩) rfl (show (3 : Nat) ≤ 9223372036854775807 by decide) (hs35.keep (Kept.made hm (by repeat (first | exact List.Mem.head _ | apply List.Mem.tail)) hm35 (hm35.base (by simp)).size))) (.cons (tySeg_mk (x := ⟨⟨#[85, 78, 84]⟩, [splitC (⟨#[55]⟩), splitC (⟨#[49]⟩)]⟩) rfl (show (3 : Nat) ≤ 9223372036854775807 by decide) (hs37.keep (Kept.made hm (by repeat (first | exact List.Mem.head _ | apply List.Mem.tail)) hm37 (hm37.base (by simp)).size))) (.nil)))))))) hm (.head _) (by repeat (first | exact List.Mem.head _ | apply List.Mem.tail)) rfl (show (7 : Nat) ≤ maxLen by decide), fun h => absurd (show (7 : Nat) = 0 from h) (by decide)⟩
                    refine t_gr (Q := fun _ _ _ => False) ?_ t_nil
                    refine x_buildSliceL (cs := [Value.string (⟨#[55]⟩), Value.string (⟨#[49]⟩)]) rfl rfl rfl Tryz.underlying54 sz9 zr9 rfl rfl rfl ?_
                    intro p36
                    refine x_end ?_
                    refine t_gr (Q := fun _ _ _ => False) ?_ t_nil
                    refine x_buildSliceL (cs := [Value.string ((⟨#[65, 65, 65, 58]⟩ : ByteArray) ++ itoaS o.price)]) rfl rfl rfl Tryz.underlying54 sz9 zr9 rfl rfl rfl ?_
                    intro p28
                    refine x_end ?_
                    refine t_gr (Q := fun _ _ _ => False) ?_ t_nil
                    refine x_call (R := fun v wa wb => ∃ A c, v = .agg #[.string ⟨#[80, 82, 73]⟩, .slice A 1 c] ∧ sliceRd (tySlice tyStr) (fun b => wa.heap.size ≤ b) wb (.slice A 1 c) [splitC ((⟨#[65, 65, 65, 58]⟩ : ByteArray) ++ itoaS o.price)]) rfl rfl rfl Tryz.func31 (by kernel_rfl) rfl (fun w1 hw1 => (c_segment (es := [(⟨#[65, 65, 65, 58]⟩ : ByteArray) ++ itoaS o.price]) (D := fun _ => True) ⟨#[80, 82, 73]⟩ w1 (rowS_rd (e := 9) (r := some (p28, [Value.string ((⟨#[65, 65, 65, 58]⟩ : ByteArray) ++ itoaS o.price)], 1)) (n := 1) (rowOK_lit rfl (by decide)) rfl (fun s hs => ok_of (z28 s hs)) hw1 (fun q hq => by rw [List.mem_singleton.1 hq]; exact (by repeat (first | exact List.Mem.head _ | apply List.Mem.tail))) (fun _ _ => trivial)) (fun s hs => Nat.le_trans (z28 s hs) (by decide)) (by show 1 ≤ 1000; decide) (hL.later (hw1.base (by simp)))).mono fun e w2 ⟨u, h1, h2, h3⟩ => seg_out h1 h2 h3) ?_
                    intro v29 wa29 wb29 hm29 hl29 hR29
                    obtain ⟨A29, c29, rfl, hs29⟩ := hR29
                    refine x_end ?_
                    refine t_flt (Q := fun _ _ _ => False) ?_
                    refine x_callv rfl rfl rfl Tryz.func32 (by kernel_rfl) rfl (fun w1 hw1 => c_number o.fund w1 hok.2.1 (hL.later (hw1.base (by simp)))) ?_
                    refine x_end ?_
                    refine t_flt (Q := fun _ _ _ => False) ?_
                    refine x_val rfl rfl rfl (v_sadd rfl rfl (by show 4 + (itoaS _).size ≤ _; omega)) ?_
                    refine x_end ?_
                    refine t_gr (Q := fun _ _ _ => False) ?_ t_nil
                    refine x_buildSliceL (cs := [Value.string ((⟨#[66, 70, 78, 58]⟩ : ByteArray) ++ itoaS o.fund)]) rfl rfl rfl Tryz.underlying54 sz9 zr9 rfl rfl rfl ?_
                    intro p34
                    refine x_end ?_
                    refine t_gr (Q := fun _ _ _ => False) ?_ t_nil
                    refine x_call (R := fun v wa wb => ∃ A c, v = .agg #[.string ⟨#[82, 70, 70]⟩, .slice A 1 c] ∧ sliceRd (tySlice tyStr) (fun b => wa.heap.size ≤ b) wb (.slice A 1 c) [splitC ((⟨#[66, 70, 78, 58]⟩ : ByteArray) ++ itoaS o.fund)]) rfl rfl rfl Tryz.func31 (by kernel_rfl) rfl (fun w1 hw1 => (c_segment (es := [(⟨#[66, 70, 78, 58]⟩ : ByteArray) ++ itoaS o.fund]) (D := fun _ => True) ⟨#[82, 70, 70]⟩ w1 (rowS_rd (e := 9) (r := some (p34, [Value.string ((⟨#[66, 70, 78, 58]⟩ : ByteArray) ++ itoaS o.fund)], 1)) (n := 1) (rowOK_lit rfl (by decide)) rfl (fun s hs => ok_of (z34 s hs)) hw1 (fun q hq => by rw [List.mem_singleton.1 hq]; exact (by repeat (first | exact List.Mem.head _ | apply List.Mem.tail))) (fun _ _ => trivial)) (fun s hs => Nat.le_trans (z34 s hs) (by decide)) (by show 1 ≤ 1000; decide) (hL.later (hw1.base (by simp)))).mono fun e w2 ⟨u, h1, h2, h3⟩ => seg_out h1 h2 h3) ?_
                    intro v35 wa35 wb35 hm35 hl35 hR35
                    obtain ⟨A35, c35, rfl, hs35⟩ := hR35
                    refine x_end ?_
                    refine t_gr (Q := fun _ _ _ => False) ?_ t_nil
                    refine x_call (R := fun v wa wb => ∃ A c, v = .agg #[.string ⟨#[85, 78, 84]⟩, .slice A 2 c] ∧ sliceRd (tySlice tyStr) (fun b => wa.heap.size ≤ b) wb (.slice A 2 c) [splitC (⟨#[55]⟩), splitC (⟨#[49]⟩)]) rfl rfl rfl Tryz.func31 (by kernel_rfl) rfl (fun w1 hw1 => (c_segment (es := [⟨#[55]⟩, ⟨#[49]⟩]) (D := fun _ => True) ⟨#[85, 78, 84]⟩ w1 (rowS_rd (e := 9) (r := some (p36, [Value.string (⟨#[55]⟩), Value.string (⟨#[49]⟩)], 2)) (n := 2) (rowOK_lit rfl (by decide)) rfl (fun s hs => ok_of (z36 s hs)) hw1 (fun q hq => by rw [List.mem_singleton.1 hq]; exact (by repeat (first | exact List.Mem.head _ | apply List.Mem.tail))) (fun _ _ => trivial)) (fun s hs => Nat.le_trans (z36 s hs) (by decide)) (by show 2 ≤ 1000; decide) (hL.later (hw1.base (by simp)))).mono fun e w2 ⟨u, h1, h2, h3⟩ => seg_out h1 h2 h3) ?_
                    intro v37 wa37 wb37 hm37 hl37 hR37
                    obtain ⟨A37, c37, rfl, hs37⟩ := hR37
                    refine x_end ?_
                    refine t_gr (Q := fun _ _ _ => False) ?_ t_nil
                    refine x_buildSliceL (cs := ([[Value.string ⟨#[85, 78, 72]⟩, .slice A7 2 c7], [Value.string ⟨#[66, 71, 77]⟩, .slice A12 2 c12], [Value.string ⟨#[76, 73, 78]⟩, .slice A17 3 c17], [Value.string ⟨#[81, 84, 89]⟩, .slice A23 1 c23], [Value.string ⟨#[80, 82, 73]⟩, .slice A29 1 c29], [Value.string ⟨#[82, 70, 70]⟩, .slice A35 1 c35], [Value.string ⟨#[85, 78, 84]⟩, .slice A37 2 c37]] : List (List Value)).flatten) rfl rfl rfl Tryz.underlying29 sz49 zr49 rfl rfl rfl ?_
                    intro p38
                    refine x_end ?_
                    refine t_flt (Q := fun _ _ _ => False) ?_
                    refine x_val rfl rfl rfl (v_assign rfl) ?_
                    refine x_end ?_
                    refine t_done ?_
                    refine x_end ?_
                    refine t_norm ?_
                    refine w_ret ?_
                    refine ret1 rfl rfl (fun w' hm => ?_)
                    rw [show orderR o = orderP o from by unfold orderR; rw [if_pos hw]]
                    exact ⟨_, rfl, hm.base (by simp), RdAll.rd (e := 49) (css := [[Value.string ⟨#[85, 78, 72]⟩, .slice A7 2 c7], [Value.string ⟨#[66, 71, 77]⟩, .slice A12 2 c12], [Value.string ⟨#[76, 73, 78]⟩, .slice A17 3 c17], [Value.string ⟨#[81, 84, 89]⟩, .slice A23 1 c23], [Value.string ⟨#[80, 82, 73]⟩, .slice A29 1 c29], [Value.string ⟨#[82, 70, 70]⟩, .slice A35 1 c35], [Value.string ⟨#[85, 78, 84]⟩, .slice A37 2 c37]]) (xs := orderP o) (.cons (tySeg_mk (x := ⟨⟨#[85, 78, 72]⟩, [splitC (⟨#[49]⟩), splitC (⟨#[79, 82, 68, 69, 82, 83, 58, 68, 58, 57, 54, 65, 58, 85, 78]⟩)]⟩) rfl (show (3 : Nat) ≤ 9223372036854775807 by decide) (hs7.keep (Kept.made hm (by repeat (first | exact List.Mem.head _ | apply List.Mem.tail)) hm7 (hm7.base (by simp)).size))) (.cons (tySeg_mk (x := ⟨⟨#[66, 71, 77]⟩, [splitC (⟨#[50, 50, 48]⟩), splitC (itoaS o.id)]⟩) rfl (show (3 : Nat) ≤ 9223372036854775807 by decide) (hs12.keep (Kept.made hm (by repeat (first | exact List.Mem.head _ | apply List.Mem.tail)) hm12 (hm12.base (by simp)).size))) (.cons (tySeg_mk (x := ⟨⟨#[76, 73, 78]⟩, [splitC (⟨#[49]⟩), splitC (⟨#[]⟩), splitC (artS o.src o.num)]⟩) rfl (show (3 : Nat) ≤ 9223372036854775807 by decide) (hs17.keep (Kept.made hm (by repeat (first | exact List.Mem.head _ | apply List.Mem.tail)) hm17 (hm17.base (by simp)).size))) (.cons (tySeg_mk (x := ⟨⟨#[81, 84, 89]⟩, [splitC ((⟨#[50, 49, 58]⟩ : ByteArray) ++ itoaS o.copies)]⟩) rfl (show (3 : Nat) ≤ 9223372036854775807 by decide) (hs23.keep (Kept.made hm (by repeat (first | exact List.Mem.head _ | apply List.Mem.tail)) hm23 (hm23.base (by simp)).size))) (.cons (tySeg_mk (x := ⟨⟨#[80, 82, 73]⟩, [splitC ((⟨#[65, 65, 65, 58]⟩ : ByteArray) ++ itoaS o.price)]⟩) rfl (show (3 : Nat) ≤ 9223372036854775807 by decide) (hs29.keep (Kept.made hm (by repeat (first | exact List.Mem.head _ | apply List.Mem.tail)) hm29 (hm29.base (by simp)).size))) (.cons (tySeg_mk (x := ⟨⟨#[82, 70, 70]⟩, [splitC ((⟨#[66, 70, 78, 58]⟩ : ByteArray) ++ itoaS o.fund)]⟩) rfl (show (3 : Nat) ≤ 9223372036854775807 by decide) (hs35.keep (Kept.made hm (by repeat (first | exact List.Mem.head _ | apply List.Mem.tail)) hm35 (hm35.base (by simp)).size))) (.cons (tySeg_mk (x := ⟨⟨#[85, 78, 84]⟩, [splitC (⟨#[55]⟩), splitC (⟨#[49]⟩)]⟩) rfl (show (3 : Nat) ≤ 9223372036854775807 by decide) (hs37.keep (Kept.made hm (by repeat (first | exact List.Mem.head _ | apply List.Mem.tail)) hm37 (hm37.base (by simp)).size))) (.nil)))))))) hm (.head _) (by repeat (first | exact List.Mem.head _ | apply List.Mem.tail)) rfl (show (7 : Nat) ≤ maxLen by decide), fun h => absurd (show (7 : Nat) = 0 from h) (by decide)⟩
                  refine t_gr (Q := fun _ _ _ => False) ?_ t_nil
                  refine x_buildSliceL (cs := [Value.string (⟨#[55]⟩), Value.string (⟨#[49]⟩)]) rfl rfl rfl Tryz.underlying54 sz9 zr9 rfl rfl rfl ?_
                  intro p36
                  refine x_end ?_
                  refine t_gr (Q := fun _ _ _ => False) ?_ t_nil
                  refine x_call (R := fun v wa wb => ∃ A c, v = .agg #[.string ⟨#[81, 84, 89]⟩, .slice A 1 c] ∧ sliceRd (tySlice tyStr) (fun b => wa.heap.size ≤ b) wb (.slice A 1 c) [splitC ((⟨#[50, 49, 58]⟩ : ByteArray) ++ itoaS o.copies)]) rfl rfl rfl Tryz.func31 (by kernel_rfl) rfl (fun w1 hw1 => (c_segment (es := [(⟨#[50, 49, 58]⟩ : ByteArray) ++ itoaS o.copies]) (D := fun _ => True) ⟨#[81, 84, 89]⟩ w1 (rowS_rd (e := 9) (r := some (p22, [Value.string ((⟨#[50, 49, 58]⟩ : ByteArray) ++ itoaS o.copies)], 1)) (n := 1) (rowOK_lit rfl (by decide)) rfl (fun s hs => ok_of (z22 s hs)) hw1 (fun q hq => by rw [List.mem_singleton.1 hq]; exact (by repeat (first | exact List.Mem.head _ | apply List.Mem.tail))) (fun _ _ => trivial)) (fun s hs => Nat.le_trans (z22 s hs) (by decide)) (by show 1 ≤ 1000; decide) (hL.later (hw1.base (by simp)))).mono fun e w2 ⟨u, h1, h2, h3⟩ => seg_out h1 h2 h3) ?_
                  intro v23 wa23 wb23 hm23 hl23 hR23
                  obtain ⟨A23, c23, rfl, hs23⟩ := hR23
                  refine x_end ?_
                  refine t_flt (Q := fun _ _ _ => False) ?_
                  refine x_callv rfl rfl rfl Tryz.func32 (by kernel_rfl) rfl (fun w1 hw1 => c_number o.price w1 hok.2.2.2.2.2 (hL.later (hw1.base (by simp)))) ?_
                  refine x_end ?_
                  refine t_flt (Q := fun _ _ _ => False) ?_
                  refine x_val rfl rfl rfl (v_sadd rfl rfl (by show 4 + (itoaS _).size ≤ _; omega)) ?_
                  refine x_end ?_
                  refine t_gr (Q := fun _ _ _ => False) ?_ t_nil
                  refine x_buildSliceL (cs := [Value.string ((⟨#[65, 65, 65, 58]⟩ : ByteArray) ++ itoaS o.price)]) rfl rfl rfl Tryz.underlying54 sz9 zr9 rfl rfl rfl ?_
                  intro p28
                  refine x_end ?_
                  refine t_gr (Q := fun _ _ _ => False) ?_ t_nil
                  refine x_call (R := fun v wa wb => ∃ A c, v = .agg #[.string ⟨#[80, 82, 73]⟩, .slice A 1 c] ∧ sliceRd (tySlice tyStr) (fun b => wa.heap.size ≤ b) wb (.slice A 1 c) [splitC ((⟨#[65, 65, 65, 58]⟩ : ByteArray) ++ itoaS o.price)]) rfl rfl rfl Tryz.func31 (by kernel_rfl) rfl (fun w1 hw1 => (c_segment (es := [(⟨#[65, 65, 65, 58]⟩ : ByteArray) ++ itoaS o.price]) (D := fun _ => True) ⟨#[80, 82, 73]⟩ w1 (rowS_rd (e := 9) (r := some (p28, [Value.string ((⟨#[65, 65, 65, 58]⟩ : ByteArray) ++ itoaS o.price)], 1)) (n := 1) (rowOK_lit rfl (by decide)) rfl (fun s hs => ok_of (z28 s hs)) hw1 (fun q hq => by rw [List.mem_singleton.1 hq]; exact (by repeat (first | exact List.Mem.head _ | apply List.Mem.tail))) (fun _ _ => trivial)) (fun s hs => Nat.le_trans (z28 s hs) (by decide)) (by show 1 ≤ 1000; decide) (hL.later (hw1.base (by simp)))).mono fun e w2 ⟨u, h1, h2, h3⟩ => seg_out h1 h2 h3) ?_
                  intro v29 wa29 wb29 hm29 hl29 hR29
                  obtain ⟨A29, c29, rfl, hs29⟩ := hR29
                  refine x_end ?_
                  refine t_flt (Q := fun _ _ _ => False) ?_
                  refine x_callv rfl rfl rfl Tryz.func32 (by kernel_rfl) rfl (fun w1 hw1 => c_number o.fund w1 hok.2.1 (hL.later (hw1.base (by simp)))) ?_
                  refine x_end ?_
                  refine t_flt (Q := fun _ _ _ => False) ?_
                  refine x_val rfl rfl rfl (v_sadd rfl rfl (by show 4 + (itoaS _).size ≤ _; omega)) ?_
                  refine x_end ?_
                  refine t_gr (Q := fun _ _ _ => False) ?_ t_nil
                  refine x_buildSliceL (cs := [Value.string ((⟨#[66, 70, 78, 58]⟩ : ByteArray) ++ itoaS o.fund)]) rfl rfl rfl Tryz.underlying54 sz9 zr9 rfl rfl rfl ?_
                  intro p34
                  refine x_end ?_
                  refine t_gr (Q := fun _ _ _ => False) ?_ t_nil
                  refine x_call (R := fun v wa wb => ∃ A c, v = .agg #[.string ⟨#[82, 70, 70]⟩, .slice A 1 c] ∧ sliceRd (tySlice tyStr) (fun b => wa.heap.size ≤ b) wb (.slice A 1 c) [splitC ((⟨#[66, 70, 78, 58]⟩ : ByteArray) ++ itoaS o.fund)]) rfl rfl rfl Tryz.func31 (by kernel_rfl) rfl (fun w1 hw1 => (c_segment (es := [(⟨#[66, 70, 78, 58]⟩ : ByteArray) ++ itoaS o.fund]) (D := fun _ => True) ⟨#[82, 70, 70]⟩ w1 (rowS_rd (e := 9) (r := some (p34, [Value.string ((⟨#[66, 70, 78, 58]⟩ : ByteArray) ++ itoaS o.fund)], 1)) (n := 1) (rowOK_lit rfl (by decide)) rfl (fun s hs => ok_of (z34 s hs)) hw1 (fun q hq => by rw [List.mem_singleton.1 hq]; exact (by repeat (first | exact List.Mem.head _ | apply List.Mem.tail))) (fun _ _ => trivial)) (fun s hs => Nat.le_trans (z34 s hs) (by decide)) (by show 1 ≤ 1000; decide) (hL.later (hw1.base (by simp)))).mono fun e w2 ⟨u, h1, h2, h3⟩ => seg_out h1 h2 h3) ?_
                  intro v35 wa35 wb35 hm35 hl35 hR35
                  obtain ⟨A35, c35, rfl, hs35⟩ := hR35
                  refine x_end ?_
                  refine t_gr (Q := fun _ _ _ => False) ?_ t_nil
                  refine x_call (R := fun v wa wb => ∃ A c, v = .agg #[.string ⟨#[85, 78, 84]⟩, .slice A 2 c] ∧ sliceRd (tySlice tyStr) (fun b => wa.heap.size ≤ b) wb (.slice A 2 c) [splitC (⟨#[55]⟩), splitC (⟨#[49]⟩)]) rfl rfl rfl Tryz.func31 (by kernel_rfl) rfl (fun w1 hw1 => (c_segment (es := [⟨#[55]⟩, ⟨#[49]⟩]) (D := fun _ => True) ⟨#[85, 78, 84]⟩ w1 (rowS_rd (e := 9) (r := some (p36, [Value.string (⟨#[55]⟩), Value.string (⟨#[49]⟩)], 2)) (n := 2) (rowOK_lit rfl (by decide)) rfl (fun s hs => ok_of (z36 s hs)) hw1 (fun q hq => by rw [List.mem_singleton.1 hq]; exact (by repeat (first | exact List.Mem.head _ | apply List.Mem.tail))) (fun _ _ => trivial)) (fun s hs => Nat.le_trans (z36 s hs) (by decide)) (by show 2 ≤ 1000; decide) (hL.later (hw1.base (by simp)))).mono fun e w2 ⟨u, h1, h2, h3⟩ => seg_out h1 h2 h3) ?_
                  intro v37 wa37 wb37 hm37 hl37 hR37
                  obtain ⟨A37, c37, rfl, hs37⟩ := hR37
                  refine x_end ?_
                  refine t_gr (Q := fun _ _ _ => False) ?_ t_nil
                  refine x_buildSliceL (cs := ([[Value.string ⟨#[85, 78, 72]⟩, .slice A7 2 c7], [Value.string ⟨#[66, 71, 77]⟩, .slice A12 2 c12], [Value.string ⟨#[76, 73, 78]⟩, .slice A17 3 c17], [Value.string ⟨#[81, 84, 89]⟩, .slice A23 1 c23], [Value.string ⟨#[80, 82, 73]⟩, .slice A29 1 c29], [Value.string ⟨#[82, 70, 70]⟩, .slice A35 1 c35], [Value.string ⟨#[85, 78, 84]⟩, .slice A37 2 c37]] : List (List Value)).flatten) rfl rfl rfl Tryz.underlying29 sz49 zr49 rfl rfl rfl ?_
                  intro p38
                  refine x_end ?_
                  refine t_flt (Q := fun _ _ _ => False) ?_
                  refine x_val rfl rfl rfl (v_assign rfl) ?_
                  refine x_end ?_
                  refine t_done ?_
                  refine x_end ?_
                  refine t_norm ?_
                  refine w_ret ?_
                  refine ret1 rfl rfl (fun w' hm => ?_)
                  rw [show orderR o = orderP o from by unfold orderR; rw [if_pos hw]]
                  exact ⟨_, rfl, hm.base (by simp), RdAll.rd (e := 49) (css := [[Value.string ⟨#[85, 78, 72]⟩, .slice A7 2 c7], [Value.string ⟨#[66, 71, 77]⟩, .slice A12 2 c12], [Value.string ⟨#[76, 73, 78]⟩, .slice A17 3 c17], [Value.string ⟨#[81, 84, 89]⟩, .slice A23 1 c23], [Value.string ⟨#[80, 82, 73]⟩, .slice A29 1 c29], [Value.string ⟨#[82, 70, 70]⟩, .slice A35 1 c35], [Value.string ⟨#[85, 78, 84]⟩, .slice A37 2 c37]]) (xs := orderP o) (.cons (tySeg_mk (x := ⟨⟨#[85, 78, 72]⟩, [splitC (⟨#[49]⟩), splitC (⟨#[79, 82, 68, 69, 82, 83, 58, 68, 58, 57, 54, 65, 58, 85, 78]⟩)]⟩) rfl (show (3 : Nat) ≤ 9223372036854775807 by decide) (hs7.keep (Kept.made hm (by repeat (first | exact List.Mem.head _ | apply List.Mem.tail)) hm7 (hm7.base (by simp)).size))) (.cons (tySeg_mk (x := ⟨⟨#[66, 71, 77]⟩, [splitC (⟨#[50, 50, 48]⟩), splitC (itoaS o.id)]⟩) rfl (show (3 : Nat) ≤ 9223372036854775807 by decide) (hs12.keep (Kept.made hm (by repeat (first | exact List.Mem.head _ | apply List.Mem.tail)) hm12 (hm12.base (by simp)).size))) (.cons (tySeg_mk (x := ⟨⟨#[76, 73, 78]⟩, [splitC (⟨#[49]⟩), splitC (⟨#[]⟩), splitC (artS o.src o.num)]⟩) rfl (show (3 : Nat) ≤ 9223372036854775807 by decide) (hs17.keep (Kept.made hm (by repeat (first | exact List.Mem.head _ | apply List.Mem.tail)) hm17 (hm17.base (by simp)).size))) (.cons (tySeg_mk (x := ⟨⟨#[81, 84, 89]⟩, [splitC ((⟨#[50, 49, 58]⟩ : ByteArray) ++ itoaS o.copies)]⟩) rfl (show (3 : Nat) ≤ 9223372036854775807 by decide) (hs23.keep (Kept.made hm (by repeat (first | exact List.Mem.head _ | apply List.Mem.tail)) hm23 (hm23.base (by simp)).size))) (.cons (tySeg_mk (x := ⟨⟨#[80, 82, 73]⟩, [splitC ((⟨#[65, 65, 65, 58]⟩ : ByteArray) ++ itoaS o.price)]⟩) rfl (show (3 : Nat) ≤ 9223372036854775807 by decide) (hs29.keep (Kept.made hm (by repeat (first | exact List.Mem.head _ | apply List.Mem.tail)) hm29 (hm29.base (by simp)).size))) (.cons (tySeg_mk (x := ⟨⟨#[82, 70, 70]⟩, [splitC ((⟨#[66, 70, 78, 58]⟩ : ByteArray) ++ itoaS o.fund)]⟩) rfl (show (3 : Nat) ≤ 9223372036854775807 by decide) (hs35.keep (Kept.made hm (by repeat (first | exact List.Mem.head _ | apply List.Mem.tail)) hm35 (hm35.base (by simp)).size))) (.cons (tySeg_mk (x := ⟨⟨#[85, 78, 84]⟩, [splitC (⟨#[55]⟩), splitC (⟨#[49]⟩)]⟩) rfl (show (3 : Nat) ≤ 9223372036854775807 by decide) (hs37.keep (Kept.made hm (by repeat (first | exact List.Mem.head _ | apply List.Mem.tail)) hm37 (hm37.base (by simp)).size))) (.nil)))))))) hm (.head _) (by repeat (first | exact List.Mem.head _ | apply List.Mem.tail)) rfl (show (7 : Nat) ≤ maxLen by decide), fun h => absurd (show (7 : Nat) = 0 from h) (by decide)⟩
                refine t_gr (Q := fun _ _ _ => False) ?_ t_nil
                refine x_buildSliceL (cs := [Value.string (⟨#[55]⟩), Value.string (⟨#[49]⟩)]) rfl rfl rfl Tryz.underlying54 sz9 zr9 rfl rfl rfl ?_
                intro p36
                refine x_end ?_
                refine t_gr (Q := fun _ _ _ => False) ?_ t_nil
                refine x_buildSliceL (cs := [Value.string ((⟨#[50, 49, 58]⟩ : ByteArray) ++ itoaS o.copies)]) rfl rfl rfl Tryz.underlying54 sz9 zr9 rfl rfl rfl ?_
                intro p22
                refine x_end ?_
                refine t_gr (Q := fun _ _ _ => False) ?_ t_nil
                refine x_call (R := fun v wa wb => ∃ A c, v = .agg #[.string ⟨#[81, 84, 89]⟩, .slice A 1 c] ∧ sliceRd (tySlice tyStr) (fun b => wa.heap.size ≤ b) wb (.slice A 1 c) [splitC ((⟨#[50, 49, 58]⟩ : ByteArray) ++ itoaS o.copies)]) rfl rfl rfl Tryz.func31 (by kernel_rfl) rfl (fun w1 hw1 => (c_segment (es := [(⟨#[50, 49, 58]⟩ : ByteArray) ++ itoaS o.copies]) (D := fun _ => True) ⟨#[81, 84, 89]⟩ w1 (rowS_rd (e := 9) (r := some (p22, [Value.string ((⟨#[50, 49, 58]⟩ : ByteArray) ++ itoaS o.copies)], 1)) (n := 1) (rowOK_lit rfl (by decide)) rfl (fun s hs => ok_of (z22 s hs)) hw1 (fun q hq => by rw [List.mem_singleton.1 hq]; exact (by repeat (first | exact List.Mem.head _ | apply List.Mem.tail))) (fun _ _ => trivial)) (fun s hs => Nat.le_trans (z22 s hs) (by decide)) (by show 1 ≤ 1000; decide) (hL.later (hw1.base (by simp)))).mono fun e w2 ⟨u, h1, h2, h3⟩ => seg_out h1 h2 h3) ?_
                intro v23 wa23 wb23 hm23 hl23 hR23
                obtain ⟨A23, c23, rfl, hs23⟩ := hR23
                refine x_end ?_
                refine t_flt (Q := fun _ _ _ => False) ?_
                refine x_callv rfl rfl rfl Tryz.func32 (by kernel_rfl) rfl (fun w1 hw1 => c_number o.price w1 hok.2.2.2.2.2 (hL.later (hw1.base (by simp)))) ?_
                refine x_end ?_
                refine t_flt (Q := fun _ _ _ => False) ?_
                refine x_val rfl rfl rfl (v_sadd rfl rfl (by show 4 + (itoaS _).size ≤ _; omega)) ?_
                refine x_end ?_
                refine t_gr (Q := fun _ _ _ => False) ?_ t_nil
                refine x_buildSliceL (cs := [Value.string ((⟨#[65, 65, 65, 58]⟩ : ByteArray) ++ itoaS o.price)]) rfl rfl rfl Tryz.underlying54 sz9 zr9 rfl rfl rfl ?_
                intro p28
                refine x_end ?_
                refine t_gr (Q := fun _ _ _ => False) ?_ t_nil
                refine x_call (R := fun v wa wb => ∃ A c, v = .agg #[.string ⟨#[80, 82, 73]⟩, .slice A 1 c] ∧ sliceRd (tySlice tyStr) (fun b => wa.heap.size ≤ b) wb (.slice A 1 c) [splitC ((⟨#[65, 65, 65, 58]⟩ : ByteArray) ++ itoaS o.price)]) rfl rfl rfl Tryz.func31 (by kernel_rfl) rfl (fun w1 hw1 => (c_segment (es := [(⟨#[65, 65, 65, 58]⟩ : ByteArray) ++ itoaS o.price]) (D := fun _ => True) ⟨#[80, 82, 73]⟩ w1 (rowS_rd (e := 9) (r := some (p28, [Value.string ((⟨#[65, 65, 65, 58]⟩ : ByteArray) ++ itoaS o.price)], 1)) (n := 1) (rowOK_lit rfl (by decide)) rfl (fun s hs => ok_of (z28 s hs)) hw1 (fun q hq => by rw [List.mem_singleton.1 hq]; exact (by repeat (first | exact List.Mem.head _ | apply List.Mem.tail))) (fun _ _ => trivial)) (fun s hs => Nat.le_trans (z28 s hs) (by decide)) (by show 1 ≤ 1000; decide) (hL.later (hw1.base (by simp)))).mono fun e w2 ⟨u, h1, h2, h3⟩ => seg_out h1 h2 h3) ?_
                intro v29 wa29 wb29 hm29 hl29 hR29
                obtain ⟨A29, c29, rfl, hs29⟩ := hR29
                refine x_end ?_
                refine t_flt (Q := fun _ _ _ => False) ?_
                refine x_callv rfl rfl rfl Tryz.func32 (by kernel_rfl) rfl (fun w1 hw1 => c_number o.fund w1 hok.2.1 (hL.later (hw1.base (by simp)))) ?_
                refine x_end ?_
                refine t_flt (Q := fun _ _ _ => False) ?_
                refine x_val rfl rfl rfl (v_sadd rfl rfl (by show 4 + (itoaS _).size ≤ _; omega)) ?_
                refine x_end ?_
                refine t_gr (Q := fun _ _ _ => False) ?_ t_nil
                refine x_buildSliceL (cs := [Value.string ((⟨#[66, 70, 78, 58]⟩ : ByteArray) ++ itoaS o.fund)]) rfl rfl rfl Tryz.underlying54 sz9 zr9 rfl rfl rfl ?_
                intro p34
                refine x_end ?_
                refine t_gr (Q := fun _ _ _ => False) ?_ t_nil
                refine x_call (R := fun v wa wb => ∃ A c, v = .agg #[.string ⟨#[82, 70, 70]⟩, .slice A 1 c] ∧ sliceRd (tySlice tyStr) (fun b => wa.heap.size ≤ b) wb (.slice A 1 c) [splitC ((⟨#[66, 70, 78, 58]⟩ : ByteArray) ++ itoaS o.fund)]) rfl rfl rfl Tryz.func31 (by kernel_rfl) rfl (fun w1 hw1 => (c_segment (es := [(⟨#[66, 70, 78, 58]⟩ : ByteArray) ++ itoaS o.fund]) (D := fun _ => True) ⟨#[82, 70, 70]⟩ w1 (rowS_rd (e := 9) (r := some (p34, [Value.string ((⟨#[66, 70, 78, 58]⟩ : ByteArray) ++ itoaS o.fund)], 1)) (n := 1) (rowOK_lit rfl (by decide)) rfl (fun s hs => ok_of (z34 s hs)) hw1 (fun q hq => by rw [List.mem_singleton.1 hq]; exact (by repeat (first | exact List.Mem.head _ | apply List.Mem.tail))) (fun _ _ => trivial)) (fun s hs => Nat.le_trans (z34 s hs) (by decide)) (by show 1 ≤ 1000; decide) (hL.later (hw1.base (by simp)))).mono fun e w2 ⟨u, h1, h2, h3⟩ => seg_out h1 h2 h3) ?_
                intro v35 wa35 wb35 hm35 hl35 hR35
                obtain ⟨A35, c35, rfl, hs35⟩ := hR35
                refine x_end ?_
                refine t_gr (Q := fun _ _ _ => False) ?_ t_nil
                refine x_call (R := fun v wa wb => ∃ A c, v = .agg #[.string ⟨#[85, 78, 84]⟩, .slice A 2 c] ∧ sliceRd (tySlice tyStr) (fun b => wa.heap.size ≤ b) wb (.slice A 2 c) [splitC (⟨#[55]⟩), splitC (⟨#[49]⟩)]) rfl rfl rfl Tryz.func31 (by kernel_rfl) rfl (fun w1 hw1 => (c_segment (es := [⟨#[55]⟩, ⟨#[49]⟩]) (D := fun _ => True) ⟨#[85, 78, 84]⟩ w1 (rowS_rd (e := 9) (r := some (p36, [Value.string (⟨#[55]⟩), Value.string (⟨#[49]⟩)], 2)) (n := 2) (rowOK_lit rfl (by decide)) rfl (fun s hs => ok_of (z36 s hs)) hw1 (fun q hq => by rw [List.mem_singleton.1 hq]; exact (by repeat (first | exact List.Mem.head _ | apply List.Mem.tail))) (fun _ _ => trivial)) (fun s hs => Nat.le_trans (z36 s hs) (by decide)) (by show 2 ≤ 1000; decide) (hL.later (hw1.base (by simp)))).mono fun e w2 ⟨u, h1, h2, h3⟩ => seg_out h1 h2 h3) ?_
                intro v37 wa37 wb37 hm37 hl37 hR37
                obtain ⟨A37, c37, rfl, hs37⟩ := hR37
                refine x_end ?_
                refine t_gr (Q := fun _ _ _ => False) ?_ t_nil
                refine x_buildSliceL (cs := ([[Value.string ⟨#[85, 78, 72]⟩, .slice A7 2 c7], [Value.string ⟨#[66, 71, 77]⟩, .slice A12 2 c12], [Value.string ⟨#[76, 73, 78]⟩, .slice A17 3 c17], [Value.string ⟨#[81, 84, 89]⟩, .slice A23 1 c23], [Value.string ⟨#[80, 82, 73]⟩, .slice A29 1 c29], [Value.string ⟨#[82, 70, 70]⟩, .slice A35 1 c35], [Value.string ⟨#[85, 78, 84]⟩, .slice A37 2 c37]] : List (List Value)).flatten) rfl rfl rfl Tryz.underlying29 sz49 zr49 rfl rfl rfl ?_
                intro p38
                refine x_end ?_
                refine t_flt (Q := fun _ _ _ => False) ?_
                refine x_val rfl rfl rfl (v_assign rfl) ?_
                refine x_end ?_
                refine t_done ?_
                refine x_end ?_
                refine t_norm ?_
                refine w_ret ?_
                refine ret1 rfl rfl (fun w' hm => ?_)
                rw [show orderR o = orderP o from by unfold orderR; rw [if_pos hw]]
                exact ⟨_, rfl, hm.base (by simp), RdAll.rd (e := 49) (css := [[Value.string ⟨#[85, 78, 72]⟩, .slice A7 2 c7], [Value.string ⟨#[66, 71, 77]⟩, .slice A12 2 c12], [Value.string ⟨#[76, 73, 78]⟩, .slice A17 3 c17], [Value.string ⟨#[81, 84, 89]⟩, .slice A23 1 c23], [Value.string ⟨#[80, 82, 73]⟩, .slice A29 1 c29], [Value.string ⟨#[82, 70, 70]⟩, .slice A35 1 c35], [Value.string ⟨#[85, 78, 84]⟩, .slice A37 2 c37]]) (xs := orderP o) (.cons (tySeg_mk (x := ⟨⟨#[85, 78, 72]⟩, [splitC (⟨#[49]⟩), splitC (⟨#[79, 82, 68, 69, 82, 83, 58, 68, 58, 57, 54, 65, 58, 85, 78]⟩)]⟩) rfl (show (3 : Nat) ≤ 9223372036854775807 by decide) (hs7.keep (Kept.made hm (by repeat (first | exact List.Mem.head _ | apply List.Mem.tail)) hm7 (hm7.base (by simp)).size))) (.cons (tySeg_mk (x := ⟨⟨#[66, 71, 77]⟩, [splitC (⟨#[50, 50, 48]⟩), splitC (itoaS o.id)]⟩) rfl (show (3 : Nat) ≤ 9223372036854775807 by decide) (hs12.keep (Kept.made hm (by repeat (first | exact List.Mem.head _ | apply List.Mem.tail)) hm12 (hm12.base (by simp)).size))) (.cons (tySeg_mk (x := ⟨⟨#[76, 73, 78]⟩, [splitC (⟨#[49]⟩), splitC (⟨#[]⟩), splitC (artS o.src o.num)]⟩) rfl (show (3 : Nat) ≤ 9223372036854775807 by decide) (hs17.keep (Kept.made hm (by repeat (first | exact List.Mem.head _ | apply List.Mem.tail)) hm17 (hm17.base (by simp)).size))) (.cons (tySeg_mk (x := ⟨⟨#[81, 84, 89]⟩, [splitC ((⟨#[50, 49, 58]⟩ : ByteArray) ++ itoaS o.copies)]⟩) rfl (show (3 : Nat) ≤ 9223372036854775807 by decide) (hs23.keep (Kept.made hm (by repeat (first | exact List.Mem.head _ | apply List.Mem.tail)) hm23 (hm23.base (by simp)).size))) (.cons (tySeg_mk (x := ⟨⟨#[80, 82, 73]⟩, [splitC ((⟨#[65, 65, 65, 58]⟩ : ByteArray) ++ itoaS o.price)]⟩) rfl (show (3 : Nat) ≤ 9223372036854775807 by decide) (hs29.keep (Kept.made hm (by repeat (first | exact List.Mem.head _ | apply List.Mem.tail)) hm29 (hm29.base (by simp)).size))) (.cons (tySeg_mk (x := ⟨⟨#[82, 70, 70]⟩, [splitC ((⟨#[66, 70, 78, 58]⟩ : ByteArray) ++ itoaS o.fund)]⟩) rfl (show (3 : Nat) ≤ 9223372036854775807 by decide) (hs35.keep (Kept.made hm (by repeat (first | exact List.Mem.head _ | apply List.Mem.tail)) hm35 (hm35.base (by simp)).size))) (.cons (tySeg_mk (x := ⟨⟨#[85, 78, 84]⟩, [splitC (⟨#[55]⟩), splitC (⟨#[49]⟩)]⟩) rfl (show (3 : Nat) ≤ 9223372036854775807 by decide) (hs37.keep (Kept.made hm (by repeat (first | exact List.Mem.head _ | apply List.Mem.tail)) hm37 (hm37.base (by simp)).size))) (.nil)))))))) hm (.head _) (by repeat (first | exact List.Mem.head _ | apply List.Mem.tail)) rfl (show (7 : Nat) ≤ maxLen by decide), fun h => absurd (show (7 : Nat) = 0 from h) (by decide)⟩
              refine t_gr (Q := fun _ _ _ => False) ?_ t_nil
              refine x_buildSliceL (cs := [Value.string (⟨#[55]⟩), Value.string (⟨#[49]⟩)]) rfl rfl rfl Tryz.underlying54 sz9 zr9 rfl rfl rfl ?_
              intro p36
              refine x_end ?_
              refine t_gr (Q := fun _ _ _ => False) ?_ t_nil
              refine x_call (R := fun v wa wb => ∃ A c, v = .agg #[.string ⟨#[76, 73, 78]⟩, .slice A 3 c] ∧ sliceRd (tySlice tyStr) (fun b => wa.heap.size ≤ b) wb (.slice A 3 c) [splitC (⟨#[49]⟩), splitC (⟨#[]⟩), splitC (artS o.src o.num)]) rfl rfl rfl Tryz.func31 (by kernel_rfl) rfl (fun w1 hw1 => (c_segment (es := [⟨#[49]⟩, ⟨#[]⟩, artS o.src o.num]) (D := fun _ => True) ⟨#[76, 73, 78]⟩ w1 (rowS_rd (e := 9) (r := some (p16, [Value.string (⟨#[49]⟩), Value.string (⟨#[]⟩), Value.string (artS o.src o.num)], 3)) (n := 3) (rowOK_lit rfl (by decide)) rfl (fun s hs => ok_of (z16 s hs)) hw1 (fun q hq => by rw [List.mem_singleton.1 hq]; exact (by repeat (first | exact List.Mem.head _ | apply List.Mem.tail))) (fun _ _ => trivial)) (fun s hs => Nat.le_trans (z16 s hs) (by decide)) (by show 3 ≤ 1000; decide) (hL.later (hw1.base (by simp)))).mono fun e w2 ⟨u, h1, h2, h3⟩ => seg_out h1 h2 h3) ?_
              intro v17 wa17 wb17 hm17 hl17 hR17
              obtain ⟨A17, c17, rfl, hs17⟩ := hR17
              refine x_end ?_
              refine t_flt (Q := fun _ _ _ => False) ?_
              refine x_callv rfl rfl rfl Tryz.func32 (by kernel_rfl) rfl (fun w1 hw1 => c_number o.copies w1 hok.2.2.2.2.1 (hL.later (hw1.base (by simp)))) ?_
              refine x_end ?_
              refine t_flt (Q := fun _ _ _ => False) ?_
              refine x_val rfl rfl rfl (v_sadd rfl rfl (by show 3 + (itoaS _).size ≤ _; omega)) ?_
              refine x_end ?_
              refine t_gr (Q := fun _ _ _ => False) ?_ t_nil
              refine x_buildSliceL (cs := [Value.string ((⟨#[50, 49, 58]⟩ : ByteArray) ++ itoaS o.copies)]) rfl rfl rfl Tryz.underlying54 sz9 zr9 rfl rfl rfl ?_
              intro p22
              refine x_end ?_
              refine t_gr (Q := fun _ _ _ => False) ?_ t_nil
              refine x_call (R := fun v wa wb => ∃ A c, v = .agg #[.string ⟨#[81, 84, 89]⟩, .slice A 1 c] ∧ sliceRd (tySlice tyStr) (fun b => wa.heap.size ≤ b) wb (.slice A 1 c) [splitC ((⟨#[50, 49, 58]⟩ : ByteArray) ++ itoaS o.copies)]) rfl rfl rfl Tryz.func31 (by kernel_rfl) rfl (fun w1 hw1 => (c_segment (es := [(⟨#[50, 49, 58]⟩ : ByteArray) ++ itoaS o.copies]) (D := fun _ => True) ⟨#[81, 84, 89]⟩ w1 (rowS_rd (e := 9) (r := some (p22, [Value.string ((⟨#[50, 49, 58]⟩ : ByteArray) ++ itoaS o.copies)], 1)) (n := 1) (rowOK_lit rfl (by decide)) rfl (fun s hs => ok_of (z22 s hs)) hw1 (fun q hq => by rw [List.mem_singleton.1 hq]; exact (by repeat (first | exact List.Mem.head _ | apply List.Mem.tail))) (fun _ _ => trivial)) (fun s hs => Nat.le_trans (z22 s hs) (by decide)) (by show 1 ≤ 1000; decide) (hL.later (hw1.base (by simp)))).mono fun e w2 ⟨u, h1, h2, h3⟩ => seg_out h1 h2 h3) ?_
              intro v23 wa23 wb23 hm23 hl23 hR23
              obtain ⟨A23, c23, rfl, hs23⟩ := hR23
              refine x_end ?_
              refine t_flt (Q := fun _ _ _ => False) ?_
              refine x_callv rfl rfl rfl Tryz.func32 (by kernel_rfl) rfl (fun w1 hw1 => c_number o.price w1 hok.2.2.2.2.2 (hL.later (hw1.base (by simp)))) ?_
              refine x_end ?_
              refine t_flt (Q := fun _ _ _ => False) ?_
              refine x_val rfl rfl rfl (v_sadd rfl rfl (by show 4 + (itoaS _).size ≤ _; omega)) ?_
              refine x_end ?_
              refine t_gr (Q := fun _ _ _ => False) ?_ t_nil
              refine x_buildSliceL (cs := [Value.string ((⟨#[65, 65, 65, 58]⟩ : ByteArray) ++ itoaS o.price)]) rfl rfl rfl Tryz.underlying54 sz9 zr9 rfl rfl rfl ?_
              intro p28
              refine x_end ?_
              refine t_gr (Q := fun _ _ _ => False) ?_ t_nil
              refine x_call (R := fun v wa wb => ∃ A c, v = .agg #[.string ⟨#[80, 82, 73]⟩, .slice A 1 c] ∧ sliceRd (tySlice tyStr) (fun b => wa.heap.size ≤ b) wb (.slice A 1 c) [splitC ((⟨#[65, 65, 65, 58]⟩ : ByteArray) ++ itoaS o.price)]) rfl rfl rfl Tryz.func31 (by kernel_rfl) rfl (fun w1 hw1 => (c_segment (es := [(⟨#[65, 65, 65, 58]⟩ : ByteArray) ++ itoaS o.price]) (D := fun _ => True) ⟨#[80, 82, 73]⟩ w1 (rowS_rd (e := 9) (r := some (p28, [Value.string ((⟨#[65, 65, 65, 58]⟩ : ByteArray) ++ itoaS o.price)], 1)) (n := 1) (rowOK_lit rfl (by decide)) rfl (fun s hs => ok_of (z28 s hs)) hw1 (fun q hq => by rw [List.mem_singleton.1 hq]; exact (by repeat (first | exact List.Mem.head _ | apply List.Mem.tail))) (fun _ _ => trivial)) (fun s hs => Nat.le_trans (z28 s hs) (by decide)) (by show 1 ≤ 1000; decide) (hL.later (hw1.base (by simp)))).mono fun e w2 ⟨u, h1, h2, h3⟩ => seg_out h1 h2 h3) ?_
              intro v29 wa29 wb29 hm29 hl29 hR29
              obtain ⟨A29, c29, rfl, hs29⟩ := hR29
              refine x_end ?_
              refine t_flt (Q := fun _ _ _ => False) ?_
              refine x_callv rfl rfl rfl Tryz.func32 (by kernel_rfl) rfl (fun w1 hw1 => c_number o.fund w1 hok.2.1 (hL.later (hw1.base (by simp)))) ?_
              refine x_end ?_
              refine t_flt (Q := fun _ _ _ => False) ?_
              refine x_val rfl rfl rfl (v_sadd rfl rfl (by show 4 + (itoaS _).size ≤ _; omega)) ?_
              refine x_end ?_
              refine t_gr (Q := fun _ _ _ => False) ?_ t_nil
              refine x_buildSliceL (cs := [Value.string ((⟨#[66, 70, 78, 58]⟩ : ByteArray) ++ itoaS o.fund)]) rfl rfl rfl Tryz.underlying54 sz9 zr9 rfl rfl rfl ?_
              intro p34
              refine x_end ?_
              refine t_gr (Q := fun _ _ _ => False) ?_ t_nil
              refine x_call (R := fun v wa wb => ∃ A c, v = .agg #[.string ⟨#[82, 70, 70]⟩, .slice A 1 c] ∧ sliceRd (tySlice tyStr) (fun b => wa.heap.size ≤ b) wb (.slice A 1 c) [splitC ((⟨#[66, 70, 78, 58]⟩ : ByteArray) ++ itoaS o.fund)]) rfl rfl rfl Tryz.func31 (by kernel_rfl) rfl (fun w1 hw1 => (c_segment (es := [(⟨#[66, 70, 78, 58]⟩ : ByteArray) ++ itoaS o.fund]) (D := fun _ => True) ⟨#[82, 70, 70]⟩ w1 (rowS_rd (e := 9) (r := some (p34, [Value.string ((⟨#[66, 70, 78, 58]⟩ : ByteArray) ++ itoaS o.fund)], 1)) (n := 1) (rowOK_lit rfl (by decide)) rfl (fun s hs => ok_of (z34 s hs)) hw1 (fun q hq => by rw [List.mem_singleton.1 hq]; exact (by repeat (first | exact List.Mem.head _ | apply List.Mem.tail))) (fun _ _ => trivial)) (fun s hs => Nat.le_trans (z34 s hs) (by decide)) (by show 1 ≤ 1000; decide) (hL.later (hw1.base (by simp)))).mono fun e w2 ⟨u, h1, h2, h3⟩ => seg_out h1 h2 h3) ?_
              intro v35 wa35 wb35 hm35 hl35 hR35
              obtain ⟨A35, c35, rfl, hs35⟩ := hR35
              refine x_end ?_
              refine t_gr (Q := fun _ _ _ => False) ?_ t_nil
              refine x_call (R := fun v wa wb => ∃ A c, v = .agg #[.string ⟨#[85, 78, 84]⟩, .slice A 2 c] ∧ sliceRd (tySlice tyStr) (fun b => wa.heap.size ≤ b) wb (.slice A 2 c) [splitC (⟨#[55]⟩), splitC (⟨#[49]⟩)]) rfl rfl rfl Tryz.func31 (by kernel_rfl) rfl (fun w1 hw1 => (c_segment (es := [⟨#[55]⟩, ⟨#[49]⟩]) (D := fun _ => True) ⟨#[85, 78, 84]⟩ w1 (rowS_rd (e := 9) (r := some (p36, [Value.string (⟨#[55]⟩), Value.string (⟨#[49]⟩)], 2)) (n := 2) (rowOK_lit rfl (by decide)) rfl (fun s hs => ok_of (z36 s hs)) hw1 (fun q hq => by rw [List.mem_singleton.1 hq]; exact (by repeat (first | exact List.Mem.head _ | apply List.Mem.tail))) (fun _ _ => trivial)) (fun s hs => Nat.le_trans (z36 s hs) (by decide)) (by show 2 ≤ 1000; decide) (hL.later (hw1.base (by simp)))).mono fun e w2 ⟨u, h1, h2, h3⟩ => seg_out h1 h2 h3) ?_
              intro v37 wa37 wb37 hm37 hl37 hR37
              obtain ⟨A37, c37, rfl, hs37⟩ := hR37
              refine x_end ?_
              refine t_gr (Q := fun _ _ _ => False) ?_ t_nil
              refine x_buildSliceL (cs := ([[Value.string ⟨#[85, 78, 72]⟩, .slice A7 2 c7], [Value.string ⟨#[66, 71, 77]⟩, .slice A12 2 c12], [Value.string ⟨#[76, 73, 78]⟩, .slice A17 3 c17], [Value.string ⟨#[81, 84, 89]⟩, .slice A23 1 c23], [Value.string ⟨#[80, 82, 73]⟩, .slice A29 1 c29], [Value.string ⟨#[82, 70, 70]⟩, .slice A35 1 c35], [Value.string ⟨#[85, 78, 84]⟩, .slice A37 2 c37]] : List (List Value)).flatten) rfl rfl rfl Tryz.underlying29 sz49 zr49 rfl rfl rfl ?_
              intro p38
              refine x_end ?_
              refine t_flt (Q := fun _ _ _ => False) ?_
              refine x_val rfl rfl rfl (v_assign rfl) ?_
              refine x_end ?_
              refine t_done ?_
              refine x_end ?_
              refine t_norm ?_
              refine w_ret ?_
              refine ret1 rfl rfl (fun w' hm => ?_)
              rw [show orderR o = orderP o from by unfold orderR; rw [if_pos hw]]
              exact ⟨_, rfl, hm.base (by simp), RdAll.rd (e := 49) (css := [[Value.string ⟨#[85, 78, 72]⟩, .slice A7 2 c7], [Value.string ⟨#[66, 71, 77]⟩, .slice A12 2 c12], [Value.string ⟨#[76, 73, 78]⟩, .slice A17 3 c17], [Value.string ⟨#[81, 84, 89]⟩, .slice A23 1 c23], [Value.string ⟨#[80, 82, 73]⟩, .slice A29 1 c29], [Value.string ⟨#[82, 70, 70]⟩, .slice A35 1 c35], [Value.string ⟨#[85, 78, 84]⟩, .slice A37 2 c37]]) (xs := orderP o) (.cons (tySeg_mk (x := ⟨⟨#[85, 78, 72]⟩, [splitC (⟨#[49]⟩), splitC (⟨#[79, 82, 68, 69, 82, 83, 58, 68, 58, 57, 54, 65, 58, 85, 78]⟩)]⟩) rfl (show (3 : Nat) ≤ 9223372036854775807 by decide) (hs7.keep (Kept.made hm (by repeat (first | exact List.Mem.head _ | apply List.Mem.tail)) hm7 (hm7.base (by simp)).size))) (.cons (tySeg_mk (x := ⟨⟨#[66, 71, 77]⟩, [splitC (⟨#[50, 50, 48]⟩), splitC (itoaS o.id)]⟩) rfl (show (3 : Nat) ≤ 9223372036854775807 by decide) (hs12.keep (Kept.made hm (by repeat (first | exact List.Mem.head _ | apply List.Mem.tail)) hm12 (hm12.base (by simp)).size))) (.cons (tySeg_mk (x := ⟨⟨#[76, 73, 78]⟩, [splitC (⟨#[49]⟩), splitC (⟨#[]⟩), splitC (artS o.src o.num)]⟩) rfl (show (3 : Nat) ≤ 9223372036854775807 by decide) (hs17.keep (Kept.made hm (by repeat (first | exact List.Mem.head _ | apply List.Mem.tail)) hm17 (hm17.base (by simp)).size))) (.cons (tySeg_mk (x := ⟨⟨#[81, 84, 89]⟩, [splitC ((⟨#[50, 49, 58]⟩ : ByteArray) ++ itoaS o.copies)]⟩) rfl (show (3 : Nat) ≤ 9223372036854775807 by decide) (hs23.keep (Kept.made hm (by repeat (first | exact List.Mem.head _ | apply List.Mem.tail)) hm23 (hm23.base (by simp)).size))) (.cons (tySeg_mk (x := ⟨⟨#[80, 82, 73]⟩, [splitC ((⟨#[65, 65, 65, 58]⟩ : ByteArray) ++ itoaS o.price)]⟩) rfl (show (3 : Nat) ≤ 9223372036854775807 by decide) (hs29.keep (Kept.made hm (by repeat (first | exact List.Mem.head _ | apply List.Mem.tail)) hm29 (hm29.base (by simp)).size))) (.cons (tySeg_mk (x := ⟨⟨#[82, 70, 70]⟩, [splitC ((⟨#[66, 70, 78, 58]⟩ : ByteArray) ++ itoaS o.fund)]⟩) rfl (show (3 : Nat) ≤ 9223372036854775807 by decide) (hs35.keep (Kept.made hm (by repeat (first | exact List.Mem.head _ | apply List.Mem.tail)) hm35 (hm35.base (by simp)).size))) (.cons (tySeg_mk (x := ⟨⟨#[85, 78, 84]⟩, [splitC (⟨#[55]⟩), splitC (⟨#[49]⟩)]⟩) rfl (show (3 : Nat) ≤ 9223372036854775807 by decide) (hs37.keep (Kept.made hm (by repeat (first | exact List.Mem.head _ | apply List.Mem.tail)) hm37 (hm37.base (by simp)).size))) (.nil)))))))) hm (.head _) (by repeat (first | exact List.Mem.head _ | apply List.Mem.tail)) rfl (show (7 : Nat) ≤ maxLen by decide), fun h => absurd (show (7 : Nat) = 0 from h) (by decide)⟩
            refine t_gr (Q := fun _ _ _ => False) ?_ t_nil
            refine x_buildSliceL (cs := [Value.string (⟨#[55]⟩), Value.string (⟨#[49]⟩)]) rfl rfl rfl Tryz.underlying54 sz9 zr9 rfl rfl rfl ?_
            intro p36
            refine x_end ?_
            refine t_gr (Q := fun _ _ _ => False) ?_ t_nil
            refine x_buildSliceL (cs := [Value.string (⟨#[49]⟩), Value.string (⟨#[]⟩), Value.string (artS o.src o.num)]) rfl rfl rfl Tryz.underlying54 sz9 zr9 rfl rfl rfl ?_
            intro p16
            refine x_end ?_
            refine t_gr (Q := fun _ _ _ => False) ?_ t_nil
            refine x_call (R := fun v wa wb => ∃ A c, v = .agg #[.string ⟨#[76, 73, 78]⟩, .slice A 3 c] ∧ sliceRd (tySlice tyStr) (fun b => wa.heap.size ≤ b) wb (.slice A 3 c) [splitC (⟨#[49]⟩), splitC (⟨#[]⟩), splitC (artS o.src o.num)]) rfl rfl rfl Tryz.func31 (by kernel_rfl) rfl (fun w1 hw1 => (c_segment (es := [⟨#[49]⟩, ⟨#[]⟩, artS o.src o.num]) (D := fun _ => True) ⟨#[76, 73, 78]⟩ w1 (rowS_rd (e := 9) (r := some (p16, [Value.string (⟨#[49]⟩), Value.string (⟨#[]⟩), Value.string (artS o.src o.num)], 3)) (n := 3) (rowOK_lit rfl (by decide)) rfl (fun s hs => ok_of (z16 s hs)) hw1 (fun q hq => by rw [List.mem_singleton.1 hq]; exact (by repeat (first | exact List.Mem.head _ | apply List.Mem.tail))) (fun _ _ => trivial)) (fun s hs => Nat.le_trans (z16 s hs) (by decide)) (by show 3 ≤ 1000; decide) (hL.later (hw1.base (by simp)))).mono fun e w2 ⟨u, h1, h2, h3⟩ => seg_out h1 h2 h3) ?_
            intro v17 wa17 wb17 hm17 hl17 hR17
            obtain ⟨A17, c17, rfl, hs17⟩ := hR17
            refine x_end ?_
            refine t_flt (Q := fun _ _ _ => False) ?_
            refine x_callv rfl rfl rfl Tryz.func32 (by kernel_rfl) rfl (fun w1 hw1 => c_number o.copies w1 hok.2.2.2.2.1 (hL.later (hw1.base (by simp)))) ?_
            refine x_end ?_
            refine t_flt (Q := fun _ _ _ => False) ?_
            refine x_val rfl rfl rfl (v_sadd rfl rfl (by show 3 + (itoaS _).size ≤ _; omega)) ?_
            refine x_end ?_
            refine t_gr (Q := fun _ _ _ => False) ?_ t_nil
            refine x_buildSliceL (cs := [Value.string ((⟨#[50, 49, 58]⟩ : ByteArray) ++ itoaS o.copies)]) rfl rfl rfl Tryz.underlying54 sz9 zr9 rfl rfl rfl ?_
            intro p22
            refine x_end ?_
            refine t_gr (Q := fun _ _ _ => False) ?_ t_nil
            refine x_call (R := fun v wa wb => ∃ A c, v = .agg #[.string ⟨#[81, 84, 89]⟩, .slice A 1 c] ∧ sliceRd (tySlice tyStr) (fun b => wa.heap.size ≤ b) wb (.slice A 1 c) [splitC ((⟨#[50, 49, 58]⟩ : ByteArray) ++ itoaS o.copies)]) rfl rfl rfl Tryz.func31 (by kernel_rfl) rfl (fun w1 hw1 => (c_segment (es := [(⟨#[50, 49, 58]⟩ : ByteArray) ++ itoaS o.copies]) (D := fun _ => True) ⟨#[81, 84, 89]⟩ w1 (rowS_rd (e := 9) (r := some (p22, [Value.string ((⟨#[50, 49, 58]⟩ : ByteArray) ++ itoaS o.copies)], 1)) (n := 1) (rowOK_lit rfl (by decide)) rfl (fun s hs => ok_of (z22 s hs)) hw1 (fun q hq => by rw [List.mem_singleton.1 hq]; exact (by repeat (first | exact List.Mem.head _ | apply List.Mem.tail))) (fun _ _ => trivial)) (fun s hs => Nat.le_trans (z22 s hs) (by decide)) (by show 1 ≤ 1000; decide) (hL.later (hw1.base (by simp)))).mono fun e w2 ⟨u, h1, h2, h3⟩ => seg_out h1 h2 h3) ?_
            intro v23 wa23 wb23 hm23 hl23 hR23
            obtain ⟨A23, c23, rfl, hs23⟩ := hR23
            refine x_end ?_
            refine t_flt (Q := fun _ _ _ => False) ?_
            refine x_callv rfl rfl rfl Tryz.func32 (by kernel_rfl) rfl (fun w1 hw1 => c_number o.price w1 hok.2.2.2.2.2 (hL.later (hw1.base (by simp)))) ?_
            refine x_end ?_
            refine t_flt (Q := fun _ _ _ => False) ?_
            refine x_val rfl rfl rfl (v_sadd rfl rfl (by show 4 + (itoaS _).size ≤ _; omega)) ?_
            refine x_end ?_
            refine t_gr (Q := fun _ _ _ => False) ?_ t_nil
            refine x_buildSliceL (cs := [Value.string ((⟨#[65, 65, 65, 58]⟩ : ByteArray) ++ itoaS o.price)]) rfl rfl rfl Tryz.underlying54 sz9 zr9 rfl rfl rfl ?_
            intro p28
            refine x_end ?_
            refine t_gr (Q := fun _ _ _ => False) ?_ t_nil
            refine x_call (R := fun v wa wb => ∃ A c, v = .agg #[.string ⟨#[80, 82, 73]⟩, .slice A 1 c] ∧ sliceRd (tySlice tyStr) (fun b => wa.heap.size ≤ b) wb (.slice A 1 c) [splitC ((⟨#[65, 65, 65, 58]⟩ : ByteArray) ++ itoaS o.price)]) rfl rfl rfl Tryz.func31 (by kernel_rfl) rfl (fun w1 hw1 => (c_segment (es := [(⟨#[65, 65, 65, 58]⟩ : ByteArray) ++ itoaS o.price]) (D := fun _ => True) ⟨#[80, 82, 73]⟩ w1 (rowS_rd (e := 9) (r := some (p28, [Value.string ((⟨#[65, 65, 65, 58]⟩ : ByteArray) ++ itoaS o.price)], 1)) (n := 1) (rowOK_lit rfl (by decide)) rfl (fun s hs => ok_of (z28 s hs)) hw1 (fun q hq => by rw [List.mem_singleton.1 hq]; exact (by repeat (first | exact List.Mem.head _ | apply List.Mem.tail))) (fun _ _ => trivial)) (fun s hs => Nat.le_trans (z28 s hs) (by decide)) (by show 1 ≤ 1000; decide) (hL.later (hw1.base (by simp)))).mono fun e w2 ⟨u, h1, h2, h3⟩ => seg_out h1 h2 h3) ?_
            intro v29 wa29 wb29 hm29 hl29 hR29
            obtain ⟨A29, c29, rfl, hs29⟩ := hR29
            refine x_end ?_
            refine t_flt (Q := fun _ _ _ => False) ?_
            refine x_callv rfl rfl rfl Tryz.func32 (by kernel_rfl) rfl (fun w1 hw1 => c_number o.fund w1 hok.2.1 (hL.later (hw1.base (by simp)))) ?_
            refine x_end ?_
            refine t_flt (Q := fun _ _ _ => False) ?_
            refine x_val rfl rfl rfl (v_sadd rfl rfl (by show 4 + (itoaS _).size ≤ _; omega)) ?_
            refine x_end ?_
            refine t_gr (Q := fun _ _ _ => False) ?_ t_nil
            refine x_buildSliceL (cs := [Value.string ((⟨#[66, 70, 78, 58]⟩ : ByteArray) ++ itoaS o.fund)]) rfl rfl rfl Tryz.underlying54 sz9 zr9 rfl rfl rfl ?_
            intro p34
            refine x_end ?_
            refine t_gr (Q := fun _ _ _ => False) ?_ t_nil
            refine x_call (R := fun v wa wb => ∃ A c, v = .agg #[.string ⟨#[82, 70, 70]⟩, .slice A 1 c] ∧ sliceRd (tySlice tyStr) (fun b => wa.heap.size ≤ b) wb (.slice A 1 c) [splitC ((⟨#[66, 70, 78, 58]⟩ : ByteArray) ++ itoaS o.fund)]) rfl rfl rfl Tryz.func31 (by kernel_rfl) rfl (fun w1 hw1 => (c_segment (es := [(⟨#[66, 70, 78, 58]⟩ : ByteArray) ++ itoaS o.fund]) (D := fun _ => True) ⟨#[82, 70, 70]⟩ w1 (rowS_rd (e := 9) (r := some (p34, [Value.string ((⟨#[66, 70, 78, 58]⟩ : ByteArray) ++ itoaS o.fund)], 1)) (n := 1) (rowOK_lit rfl (by decide)) rfl (fun s hs => ok_of (z34 s hs)) hw1 (fun q hq => by rw [List.mem_singleton.1 hq]; exact (by repeat (first | exact List.Mem.head _ | apply List.Mem.tail))) (fun _ _ => trivial)) (fun s hs => Nat.le_trans (z34 s hs) (by decide)) (by show 1 ≤ 1000; decide) (hL.later (hw1.base (by simp)))).mono fun e w2 ⟨u, h1, h2, h3⟩ => seg_out h1 h2 h3) ?_
            intro v35 wa35 wb35 hm35 hl35 hR35
            obtain ⟨A35, c35, rfl, hs35⟩ := hR35
            refine x_end ?_
            refine t_gr (Q := fun _ _ _ => False) ?_ t_nil
            refine x_call (R := fun v wa wb => ∃ A c, v = .agg #[.string ⟨#[85, 78, 84]⟩, .slice A 2 c] ∧ sliceRd (tySlice tyStr) (fun b => wa.heap.size ≤ b) wb (.slice A 2 c) [splitC (⟨#[55]⟩), splitC (⟨#[49]⟩)]) rfl rfl rfl Tryz.func31 (by kernel_rfl) rfl (fun w1 hw1 => (c_segment (es := [⟨#[55]⟩, ⟨#[49]⟩]) (D := fun _ => True) ⟨#[85, 78, 84]⟩ w1 (rowS_rd (e := 9) (r := some (p36, [Value.string (⟨#[55]⟩), Value.string (⟨#[49]⟩)], 2)) (n := 2) (rowOK_lit rfl (by decide)) rfl (fun s hs => ok_of (z36 s hs)) hw1 (fun q hq => by rw [List.mem_singleton.1 hq]; exact (by repeat (first | exact List.Mem.head _ | apply List.Mem.tail))) (fun _ _ => trivial)) (fun s hs => Nat.le_trans (z36 s hs) (by decide)) (by show 2 ≤ 1000; decide) (hL.later (hw1.base (by simp)))).mono fun e w2 ⟨u, h1, h2, h3⟩ => seg_out h1 h2 h3) ?_
            intro v37 wa37 wb37 hm37 hl37 hR37
            obtain ⟨A37, c37, rfl, hs37⟩ := hR37
            refine x_end ?_
            refine t_gr (Q := fun _ _ _ => False) ?_ t_nil
            refine x_buildSliceL (cs := ([[Value.string ⟨#[85, 78, 72]⟩, .slice A7 2 c7], [Value.string ⟨#[66, 71, 77]⟩, .slice A12 2 c12], [Value.string ⟨#[76, 73, 78]⟩, .slice A17 3 c17], [Value.string ⟨#[81, 84, 89]⟩, .slice A23 1 c23], [Value.string ⟨#[80, 82, 73]⟩, .slice A29 1 c29], [Value.string ⟨#[82, 70, 70]⟩, .slice A35 1 c35], [Value.string ⟨#[85, 78, 84]⟩, .slice A37 2 c37]] : List (List Value)).flatten) rfl rfl rfl Tryz.underlying29 sz49 zr49 rfl rfl rfl ?_
            intro p38
            refine x_end ?_
            refine t_flt (Q := fun _ _ _ => False) ?_
            refine x_val rfl rfl rfl (v_assign rfl) ?_
            refine x_end ?_
            refine t_done ?_
            refine x_end ?_
            refine t_norm ?_
            refine w_ret ?_
            refine ret1 rfl rfl (fun w' hm => ?_)
            rw [show orderR o = orderP o from by unfold orderR; rw [if_pos hw]]
            exact ⟨_, rfl, hm.base (by simp), RdAll.rd (e := 49) (css := [[Value.string ⟨#[85, 78, 72]⟩, .slice A7 2 c7], [Value.string ⟨#[66, 71, 77]⟩, .slice A12 2 c12], [Value.string ⟨#[76, 73, 78]⟩, .slice A17 3 c17], [Value.string ⟨#[81, 84, 89]⟩, .slice A23 1 c23], [Value.string ⟨#[80, 82, 73]⟩, .slice A29 1 c29], [Value.string ⟨#[82, 70, 70]⟩, .slice A35 1 c35], [Value.string ⟨#[85, 78, 84]⟩, .slice A37 2 c37]]) (xs := orderP o) (.cons (tySeg_mk (x := ⟨⟨#[85, 78, 72]⟩, [splitC (⟨#[49]⟩), splitC (⟨#[79, 82, 68, 69, 82, 83, 58, 68, 58, 57, 54, 65, 58, 85, 78]⟩)]⟩) rfl (show (3 : Nat) ≤ 9223372036854775807 by decide) (hs7.keep (Kept.made hm (by repeat (first | exact List.Mem.head _ | apply List.Mem.tail)) hm7 (hm7.base (by simp)).size))) (.cons (tySeg_mk (x := ⟨⟨#[66, 71, 77]⟩, [splitC (⟨#[50, 50, 48]⟩), splitC (itoaS o.id)]⟩) rfl (show (3 : Nat) ≤ 9223372036854775807 by decide) (hs12.keep (Kept.made hm (by repeat (first | exact List.Mem.head _ | apply List.Mem.tail)) hm12 (hm12.base (by simp)).size))) (.cons (tySeg_mk (x := ⟨⟨#[76, 73, 78]⟩, [splitC (⟨#[49]⟩), splitC (⟨#[]⟩), splitC (artS o.src o.num)]⟩) rfl (show (3 : Nat) ≤ 9223372036854775807 by decide) (hs17.keep (Kept.made hm (by repeat (first | exact List.Mem.head _ | apply List.Mem.tail)) hm17 (hm17.base (by simp)).size))) (.cons (tySeg_mk (x := ⟨⟨#[81, 84, 89]⟩, [splitC ((⟨#[50, 49, 58]⟩ : ByteArray) ++ itoaS o.copies)]⟩) rfl (show (3 : Nat) ≤ 9223372036854775807 by decide) (hs23.keep (Kept.made hm (by repeat (first | exact List.Mem.head _ | apply List.Mem.tail)) hm23 (hm23.base (by simp)).size))) (.cons (tySeg_mk (x := ⟨⟨#[80, 82, 73]⟩, [splitC ((⟨#[65, 65, 65, 58]⟩ : ByteArray) ++ itoaS o.price)]⟩) rfl (show (3 : Nat) ≤ 9223372036854775807 by decide) (hs29.keep (Kept.made hm (by repeat (first | exact List.Mem.head _ | apply List.Mem.tail)) hm29 (hm29.base (by simp)).size))) (.cons (tySeg_mk (x := ⟨⟨#[82, 70, 70]⟩, [splitC ((⟨#[66, 70, 78, 58]⟩ : ByteArray) ++ itoaS o.fund)]⟩) rfl (show (3 : Nat) ≤ 9223372036854775807 by decide) (hs35.keep (Kept.made hm (by repeat (first | exact List.Mem.head _ | apply List.Mem.tail)) hm35 (hm35.base (by simp)).size))) (.cons (tySeg_mk (x := ⟨⟨#[85, 78, 84]⟩, [splitC (⟨#[55]⟩), splitC (⟨#[49]⟩)]⟩) rfl (show (3 : Nat) ≤ 9223372036854775807 by decide) (hs37.keep (Kept.made hm (by repeat (first | exact List.Mem.head _ | apply List.Mem.tail)) hm37 (hm37.base (by simp)).size))) (.nil)))))))) hm (.head _) (by repeat (first | exact List.Mem.head _ | apply List.Mem.tail)) rfl (show (7 : Nat) ≤ maxLen by decide), fun h => absurd (show (7 : Nat) = 0 from h) (by decide)⟩
          refine t_gr (Q := fun _ _ _ => False) ?_ t_nil
          refine x_buildSliceL (cs := [Value.string (⟨#[55]⟩), Value.string (⟨#[49]⟩)]) rfl rfl rfl Tryz.underlying54 sz9 zr9 rfl rfl rfl ?_
          intro p36
          refine x_end ?_
          refine t_gr (Q := fun _ _ _ => False) ?_ t_nil
          refine x_call (R := fun v wa wb => ∃ A c, v = .agg #[.string ⟨#[66, 71, 77]⟩, .slice A 2 c] ∧ sliceRd (tySlice tyStr) (fun b => wa.heap.size ≤ b) wb (.slice A 2 c) [splitC (⟨#[50, 50, 48]⟩), splitC (itoaS o.id)]) rfl rfl rfl Tryz.func31 (by kernel_rfl) rfl (fun w1 hw1 => (c_segment (es := [⟨#[50, 50, 48]⟩, itoaS o.id]) (D := fun _ => True) ⟨#[66, 71, 77]⟩ w1 (rowS_rd (e := 9) (r := some (p11, [Value.string (⟨#[50, 50, 48]⟩), Value.string (itoaS o.id)], 2)) (n := 2) (rowOK_lit rfl (by decide)) rfl (fun s hs => ok_of (z11 s hs)) hw1 (fun q hq => by rw [List.mem_singleton.1 hq]; exact (by repeat (first | exact List.Mem.head _ | apply List.Mem.tail))) (fun _ _ => trivial)) (fun s hs => Nat.le_trans (z11 s hs) (by decide)) (by show 2 ≤ 1000; decide) (hL.later (hw1.base (by simp)))).mono fun e w2 ⟨u, h1, h2, h3⟩ => seg_out h1 h2 h3) ?_
          intro v12 wa12 wb12 hm12 hl12 hR12
          obtain ⟨A12, c12, rfl, hs12⟩ := hR12
          refine x_end ?_
          refine t_flt (Q := fun _ _ _ => False) ?_
          refine x_callv rfl rfl rfl Tryz.func33 (by kernel_rfl) rfl (fun w1 hw1 => c_article o.src o.num w1 hok.2.2.1 hok.2.2.2.1 (hL.later (hw1.base (by simp)))) ?_
          refine x_end ?_
          refine t_gr (Q := fun _ _ _ => False) ?_ t_nil
          refine x_buildSliceL (cs := [Value.string (⟨#[49]⟩), Value.string (⟨#[]⟩), Value.string (artS o.src o.num)]) rfl rfl rfl Tryz.underlying54 sz9 zr9 rfl rfl rfl ?_
          intro p16
          refine x_end ?_
          refine t_gr (Q := fun _ _ _ => False) ?_ t_nil
          refine x_call (R := fun v wa wb => ∃ A c, v = .agg #[.string ⟨#[76, 73, 78]⟩, .slice A 3 c] ∧ sliceRd (tySlice tyStr) (fun b => wa.heap.size ≤ b) wb (.slice A 3 c) [splitC (⟨#[49]⟩), splitC (⟨#[]⟩), splitC (artS o.src o.num)]) rfl rfl rfl Tryz.func31 (by kernel_rfl) rfl (fun w1 hw1 => (c_segment (es := [⟨#[49]⟩, ⟨#[]⟩, artS o.src o.num]) (D := fun _ => True) ⟨#[76, 73, 78]⟩ w1 (rowS_rd (e := 9) (r := some (p16, [Value.string (⟨#[49]⟩), Value.string (⟨#[]⟩), Value.string (artS o.src o.num)], 3)) (n := 3) (rowOK_lit rfl (by decide)) rfl (fun s hs => ok_of (z16 s hs)) hw1 (fun q hq => by rw [List.mem_singleton.1 hq]; exact (by repeat (first | exact List.Mem.head _ | apply List.Mem.tail))) (fun _ _ => trivial)) (fun s hs => Nat.le_trans (z16 s hs) (by decide)) (by show 3 ≤ 1000; decide) (hL.later (hw1.base (by simp)))).mono fun e w2 ⟨u, h1, h2, h3⟩ => seg_out h1 h2 h3) ?_
          intro v17 wa17 wb17 hm17 hl17 hR17
          obtain ⟨A17, c17, rfl, hs17⟩ := hR17
          refine x_end ?_
          refine t_flt (Q := fun _ _ _ => False) ?_
          refine x_callv rfl rfl rfl Tryz.func32 (by kernel_rfl) rfl (fun w1 hw1 => c_number o.copies w1 hok.2.2.2.2.1 (hL.later (hw1.base (by simp)))) ?_
          refine x_end ?_
          refine t_flt (Q := fun _ _ _ => False) ?_
          refine x_val rfl rfl rfl (v_sadd rfl rfl (by show 3 + (itoaS _).size ≤ _; omega)) ?_
          refine x_end ?_
          refine t_gr (Q := fun _ _ _ => False) ?_ t_nil
          refine x_buildSliceL (cs := [Value.string ((⟨#[50, 49, 58]⟩ : ByteArray) ++ itoaS o.copies)]) rfl rfl rfl Tryz.underlying54 sz9 zr9 rfl rfl rfl ?_
          intro p22
          refine x_end ?_
          refine t_gr (Q := fun _ _ _ => False) ?_ t_nil
          refine x_call (R := fun v wa wb => ∃ A c, v = .agg #[.string ⟨#[81, 84, 89]⟩, .slice A 1 c] ∧ sliceRd (tySlice tyStr) (fun b => wa.heap.size ≤ b) wb (.slice A 1 c) [splitC ((⟨#[50, 49, 58]⟩ : ByteArray) ++ itoaS o.copies)]) rfl rfl rfl Tryz.func31 (by kernel_rfl) rfl (fun w1 hw1 => (c_segment (es := [(⟨#[50, 49, 58]⟩ : ByteArray) ++ itoaS o.copies]) (D := fun _ => True) ⟨#[81, 84, 89]⟩ w1 (rowS_rd (e := 9) (r := some (p22, [Value.string ((⟨#[50, 49, 58]⟩ : ByteArray) ++ itoaS o.copies)], 1)) (n := 1) (rowOK_lit rfl (by decide)) rfl (fun s hs => ok_of (z22 s hs)) hw1 (fun q hq => by rw [List.mem_singleton.1 hq]; exact (by repeat (first | exact List.Mem.head _ | apply List.Mem.tail))) (fun _ _ => trivial)) (fun s hs => Nat.le_trans (z22 s hs) (by decide)) (by show 1 ≤ 1000; decide) (hL.later (hw1.base (by simp)))).mono fun e w2 ⟨u, h1, h2, h3⟩ => seg_out h1 h2 h3) ?_
          intro v23 wa23 wb23 hm23 hl23 hR23
          obtain ⟨A23, c23, rfl, hs23⟩ := hR23
          refine x_end ?_
          refine t_flt (Q := fun _ _ _ => False) ?_
          refine x_callv rfl rfl rfl Tryz.func32 (by kernel_rfl) rfl (fun w1 hw1 => c_number o.price w1 hok.2.2.2.2.2 (hL.later (hw1.base (by simp)))) ?_
          refine x_end ?_
          refine t_flt (Q := fun _ _ _ => False) ?_
          refine x_val rfl rfl rfl (v_sadd rfl rfl (by show 4 + (itoaS _).size ≤ _; omega)) ?_
          refine x_end ?_
          refine t_gr (Q := fun _ _ _ => False) ?_ t_nil
          refine x_buildSliceL (cs := [Value.string ((⟨#[65, 65, 65, 58]⟩ : ByteArray) ++ itoaS o.price)]) rfl rfl rfl Tryz.underlying54 sz9 zr9 rfl rfl rfl ?_
          intro p28
          refine x_end ?_
          refine t_gr (Q := fun _ _ _ => False) ?_ t_nil
          refine x_call (R := fun v wa wb => ∃ A c, v = .agg #[.string ⟨#[80, 82, 73]⟩, .slice A 1 c] ∧ sliceRd (tySlice tyStr) (fun b => wa.heap.size ≤ b) wb (.slice A 1 c) [splitC ((⟨#[65, 65, 65, 58]⟩ : ByteArray) ++ itoaS o.price)]) rfl rfl rfl Tryz.func31 (by kernel_rfl) rfl (fun w1 hw1 => (c_segment (es := [(⟨#[65, 65, 65, 58]⟩ : ByteArray) ++ itoaS o.price]) (D := fun _ => True) ⟨#[80, 82, 73]⟩ w1 (rowS_rd (e := 9) (r := some (p28, [Value.string ((⟨#[65, 65, 65, 58]⟩ : ByteArray) ++ itoaS o.price)], 1)) (n := 1) (rowOK_lit rfl (by decide)) rfl (fun s hs => ok_of (z28 s hs)) hw1 (fun q hq => by rw [List.mem_singleton.1 hq]; exact (by repeat (first | exact List.Mem.head _ | apply List.Mem.tail))) (fun _ _ => trivial)) (fun s hs => Nat.le_trans (z28 s hs) (by decide)) (by show 1 ≤ 1000; decide) (hL.later (hw1.base (by simp)))).mono fun e w2 ⟨u, h1, h2, h3⟩ => seg_out h1 h2 h3) ?_
          intro v29 wa29 wb29 hm29 hl29 hR29
          obtain ⟨A29, c29, rfl, hs29⟩ := hR29
          refine x_end ?_
          refine t_flt (Q := fun _ _ _ => False) ?_
          refine x_callv rfl rfl rfl Tryz.func32 (by kernel_rfl) rfl (fun w1 hw1 => c_number o.fund w1 hok.2.1 (hL.later (hw1.base (by simp)))) ?_
          refine x_end ?_
          refine t_flt (Q := fun _ _ _ => False) ?_
          refine x_val rfl rfl rfl (v_sadd rfl rfl (by show 4 + (itoaS _).size ≤ _; omega)) ?_
          refine x_end ?_
          refine t_gr (Q := fun _ _ _ => False) ?_ t_nil
          refine x_buildSliceL (cs := [Value.string ((⟨#[66, 70, 78, 58]⟩ : ByteArray) ++ itoaS o.fund)]) rfl rfl rfl Tryz.underlying54 sz9 zr9 rfl rfl rfl ?_
          intro p34
          refine x_end ?_
          refine t_gr (Q := fun _ _ _ => False) ?_ t_nil
          refine x_call (R := fun v wa wb => ∃ A c, v = .agg #[.string ⟨#[82, 70, 70]⟩, .slice A 1 c] ∧ sliceRd (tySlice tyStr) (fun b => wa.heap.size ≤ b) wb (.slice A 1 c) [splitC ((⟨#[66, 70, 78, 58]⟩ : ByteArray) ++ itoaS o.fund)]) rfl rfl rfl Tryz.func31 (by kernel_rfl) rfl (fun w1 hw1 => (c_segment (es := [(⟨#[66, 70, 78, 58]⟩ : ByteArray) ++ itoaS o.fund]) (D := fun _ => True) ⟨#[82, 70, 70]⟩ w1 (rowS_rd (e := 9) (r := some (p34, [Value.string ((⟨#[66, 70, 78, 58]⟩ : ByteArray) ++ itoaS o.fund)], 1)) (n := 1) (rowOK_lit rfl (by decide)) rfl (fun s hs => ok_of (z34 s hs)) hw1 (fun q hq => by rw [List.mem_singleton.1 hq]; exact (by repeat (first | exact List.Mem.head _ | apply List.Mem.tail))) (fun _ _ => trivial)) (fun s hs => Nat.le_trans (z34 s hs) (by decide)) (by show 1 ≤ 1000; decide) (hL.later (hw1.base (by simp)))).mono fun e w2 ⟨u, h1, h2, h3⟩ => seg_out h1 h2 h3) ?_
          intro v35 wa35 wb35 hm35 hl35 hR35
          obtain ⟨A35, c35, rfl, hs35⟩ := hR35
          refine x_end ?_
          refine t_gr (Q := fun _ _ _ => False) ?_ t_nil
          refine x_call (R := fun v wa wb => ∃ A c, v = .agg #[.string ⟨#[85, 78, 84]⟩, .slice A 2 c] ∧ sliceRd (tySlice tyStr) (fun b => wa.heap.size ≤ b) wb (.slice A 2 c) [splitC (⟨#[55]⟩), splitC (⟨#[49]⟩)]) rfl rfl rfl Tryz.func31 (by kernel_rfl) rfl (fun w1 hw1 => (c_segment (es := [⟨#[55]⟩, ⟨#[49]⟩]) (D := fun _ => True) ⟨#[85, 78, 84]⟩ w1 (rowS_rd (e := 9) (r := some (p36, [Value.string (⟨#[55]⟩), Value.string (⟨#[49]⟩)], 2)) (n := 2) (rowOK_lit rfl (by decide)) rfl (fun s hs => ok_of (z36 s hs)) hw1 (fun q hq => by rw [List.mem_singleton.1 hq]; exact (by repeat (first | exact List.Mem.head _ | apply List.Mem.tail))) (fun _ _ => trivial)) (fun s hs => Nat.le_trans (z36 s hs) (by decide)) (by show 2 ≤ 1000; decide) (hL.later (hw1.base (by simp)))).mono fun e w2 ⟨u, h1, h2, h3⟩ => seg_out h1 h2 h3) ?_
          intro v37 wa37 wb37 hm37 hl37 hR37
          obtain ⟨A37, c37, rfl, hs37⟩ := hR37
          refine x_end ?_
          refine t_gr (Q := fun _ _ _ => False) ?_ t_nil
          refine x_buildSliceL (cs := ([[Value.string ⟨#[85, 78, 72]⟩, .slice A7 2 c7], [Value.string ⟨#[66, 71, 77]⟩, .slice A12 2 c12], [Value.string ⟨#[76, 73, 78]⟩, .slice A17 3 c17], [Value.string ⟨#[81, 84, 89]⟩, .slice A23 1 c23], [Value.string ⟨#[80, 82, 73]⟩, .slice A29 1 c29], [Value.string ⟨#[82, 70, 70]⟩, .slice A35 1 c35], [Value.string ⟨#[85, 78, 84]⟩, .slice A37 2 c37]] : List (List Value)).flatten) rfl rfl rfl Tryz.underlying29 sz49 zr49 rfl rfl rfl ?_
          intro p38
          refine x_end ?_
          refine t_flt (Q := fun _ _ _ => False) ?_
          refine x_val rfl rfl rfl (v_assign rfl) ?_
          refine x_end ?_
          refine t_done ?_
          refine x_end ?_
          refine t_norm ?_
          refine w_ret ?_
          refine ret1 rfl rfl (fun w' hm => ?_)
          rw [show orderR o = orderP o from by unfold orderR; rw [if_pos hw]]
          exact ⟨_, rfl, hm.base (by simp), RdAll.rd (e := 49) (css := [[Value.string ⟨#[85, 78, 72]⟩, .slice A7 2 c7], [Value.string ⟨#[66, 71, 77]⟩, .slice A12 2 c12], [Value.string ⟨#[76, 73, 78]⟩, .slice A17 3 c17], [Value.string ⟨#[81, 84, 89]⟩, .slice A23 1 c23], [Value.string ⟨#[80, 82, 73]⟩, .slice A29 1 c29], [Value.string ⟨#[82, 70, 70]⟩, .slice A35 1 c35], [Value.string ⟨#[85, 78, 84]⟩, .slice A37 2 c37]]) (xs := orderP o) (.cons (tySeg_mk (x := ⟨⟨#[85, 78, 72]⟩, [splitC (⟨#[49]⟩), splitC (⟨#[79, 82, 68, 69, 82, 83, 58, 68, 58, 57, 54, 65, 58, 85, 78]⟩)]⟩) rfl (show (3 : Nat) ≤ 9223372036854775807 by decide) (hs7.keep (Kept.made hm (by repeat (first | exact List.Mem.head _ | apply List.Mem.tail)) hm7 (hm7.base (by simp)).size))) (.cons (tySeg_mk (x := ⟨⟨#[66, 71, 77]⟩, [splitC (⟨#[50, 50, 48]⟩), splitC (itoaS o.id)]⟩) rfl (show (3 : Nat) ≤ 9223372036854775807 by decide) (hs12.keep (Kept.made hm (by repeat (first | exact List.Mem.head _ | apply List.Mem.tail)) hm12 (hm12.base (by simp)).size))) (.cons (tySeg_mk (x := ⟨⟨#[76, 73, 78]⟩, [splitC (⟨#[49]⟩), splitC (⟨#[]⟩), splitC (artS o.src o.num)]⟩) rfl (show (3 : Nat) ≤ 9223372036854775807 by decide) (hs17.keep (Kept.made hm (by repeat (first | exact List.Mem.head _ | apply List.Mem.tail)) hm17 (hm17.base (by simp)).size))) (.cons (tySeg_mk (x := ⟨⟨#[81, 84, 89]⟩, [splitC ((⟨#[50, 49, 58]⟩ : ByteArray) ++ itoaS o.copies)]⟩) rfl (show (3 : Nat) ≤ 9223372036854775807 by decide) (hs23.keep (Kept.made hm (by repeat (first | exact List.Mem.head _ | apply List.Mem.tail)) hm23 (hm23.base (by simp)).size))) (.cons (tySeg_mk (x := ⟨⟨#[80, 82, 73]⟩, [splitC ((⟨#[65, 65, 65, 58]⟩ : ByteArray) ++ itoaS o.price)]⟩) rfl (show (3 : Nat) ≤ 9223372036854775807 by decide) (hs29.keep (Kept.made hm (by repeat (first | exact List.Mem.head _ | apply List.Mem.tail)) hm29 (hm29.base (by simp)).size))) (.cons (tySeg_mk (x := ⟨⟨#[82, 70, 70]⟩, [splitC ((⟨#[66, 70, 78, 58]⟩ : ByteArray) ++ itoaS o.fund)]⟩) rfl (show (3 : Nat) ≤ 9223372036854775807 by decide) (hs35.keep (Kept.made hm (by repeat (first | exact List.Mem.head _ | apply List.Mem.tail)) hm35 (hm35.base (by simp)).size))) (.cons (tySeg_mk (x := ⟨⟨#[85, 78, 84]⟩, [splitC (⟨#[55]⟩), splitC (⟨#[49]⟩)]⟩) rfl (show (3 : Nat) ≤ 9223372036854775807 by decide) (hs37.keep (Kept.made hm (by repeat (first | exact List.Mem.head _ | apply List.Mem.tail)) hm37 (hm37.base (by simp)).size))) (.nil)))))))) hm (.head _) (by repeat (first | exact List.Mem.head _ | apply List.Mem.tail)) rfl (show (7 : Nat) ≤ maxLen by decide), fun h => absurd (show (7 : Nat) = 0 from h) (by decide)⟩
        refine t_gr (Q := fun _ _ _ => False) ?_ t_nil
        refine x_buildSliceL (cs := [Value.string (⟨#[55]⟩), Value.string (⟨#[49]⟩)]) rfl rfl rfl Tryz.underlying54 sz9 zr9 rfl rfl rfl ?_
        intro p36
        refine x_end ?_
        refine t_gr (Q := fun _ _ _ => False) ?_ t_nil
        refine x_buildSliceL (cs := [Value.string (⟨#[50, 50, 48]⟩), Value.string (itoaS o.id)]) rfl rfl rfl Tryz.underlying54 sz9 zr9 rfl rfl rfl ?_
        intro p11
        refine x_end ?_
        refine t_gr (Q := fun _ _ _ => False) ?_ t_nil
        refine x_call (R := fun v wa wb => ∃ A c, v = .agg #[.string ⟨#[66, 71, 77]⟩, .slice A 2 c] ∧ sliceRd (tySlice tyStr) (fun b => wa.heap.size ≤ b) wb (.slice A 2 c) [splitC (⟨#[50, 50, 48]⟩), splitC (itoaS o.id)]) rfl rfl rfl Tryz.func31 (by kernel_rfl) rfl (fun w1 hw1 => (c_segment (es := [⟨#[50, 50, 48]⟩, itoaS o.id]) (D := fun _ => True) ⟨#[66, 71, 77]⟩ w1 (rowS_rd (e := 9) (r := some (p11, [Value.string (⟨#[50, 50, 48]⟩), Value.string (itoaS o.id)], 2)) (n := 2) (rowOK_lit rfl (by decide)) rfl (fun s hs => ok_of (z11 s hs)) hw1 (fun q hq => by rw [List.mem_singleton.1 hq]; exact (by repeat (first | exact List.Mem.head _ | apply List.Mem.tail))) (fun _ _ => trivial)) (fun s hs => Nat.le_trans (z11 s hs) (by decide)) (by show 2 ≤ 1000; decide) (hL.later (hw1.base (by simp)))).mono fun e w2 ⟨u, h1, h2, h3⟩ => seg_out h1 h2 h3) ?_
        intro v12 wa12 wb12 hm12 hl12 hR12
        obtain ⟨A12, c12, rfl, hs12⟩ := hR12
        refine x_end ?_
        refine t_flt (Q := fun _ _ _ => False) ?_
        refine x_callv rfl rfl rfl Tryz.func33 (by kernel_rfl) rfl (fun w1 hw1 => c_article o.src o.num w1 hok.2.2.1 hok.2.2.2.1 (hL.later (hw1.base (by simp)))) ?_
        refine x_end ?_
        refine t_gr (Q := fun _ _ _ => False) ?_ t_nil
        refine x_buildSliceL (cs := [Value.string (⟨#[49]⟩), Value.string (⟨#[]⟩), Value.string (artS o.src o.num)]) rfl rfl rfl Tryz.underlying54 sz9 zr9 rfl rfl rfl ?_
        intro p16
        refine x_end ?_
        refine t_gr (Q := fun _ _ _ => False) ?_ t_nil
        refine x_call (R := fun v wa wb => ∃ A c, v = .agg #[.string ⟨#[76, 73, 78]⟩, .slice A 3 c] ∧ sliceRd (tySlice tyStr) (fun b => wa.heap.size ≤ b) wb (.slice A 3 c) [splitC (⟨#[49]⟩), splitC (⟨#[]⟩), splitC (artS o.src o.num)]) rfl rfl rfl Tryz.func31 (by kernel_rfl) rfl (fun w1 hw1 => (c_segment (es := [⟨#[49]⟩, ⟨#[]⟩, artS o.src o.num]) (D := fun _ => True) ⟨#[76, 73, 78]⟩ w1 (rowS_rd (e := 9) (r := some (p16, [Value.string (⟨#[49]⟩), Value.string (⟨#[]⟩), Value.string (artS o.src o.num)], 3)) (n := 3) (rowOK_lit rfl (by decide)) rfl (fun s hs => ok_of (z16 s hs)) hw1 (fun q hq => by rw [List.mem_singleton.1 hq]; exact (by repeat (first | exact List.Mem.head _ | apply List.Mem.tail))) (fun _ _ => trivial)) (fun s hs => Nat.le_trans (z16 s hs) (by decide)) (by show 3 ≤ 1000; decide) (hL.later (hw1.base (by simp)))).mono fun e w2 ⟨u, h1, h2, h3⟩ => seg_out h1 h2 h3) ?_
        intro v17 wa17 wb17 hm17 hl17 hR17
        obtain ⟨A17, c17, rfl, hs17⟩ := hR17
        refine x_end ?_
        refine t_flt (Q := fun _ _ _ => False) ?_
        refine x_callv rfl rfl rfl Tryz.func32 (by kernel_rfl) rfl (fun w1 hw1 => c_number o.copies w1 hok.2.2.2.2.1 (hL.later (hw1.base (by simp)))) ?_
        refine x_end ?_
        refine t_flt (Q := fun _ _ _ => False) ?_
        refine x_val rfl rfl rfl (v_sadd rfl rfl (by show 3 + (itoaS _).size ≤ _; omega)) ?_
        refine x_end ?_
        refine t_gr (Q := fun _ _ _ => False) ?_ t_nil
        refine x_buildSliceL (cs := [Value.string ((⟨#[50, 49, 58]⟩ : ByteArray) ++ itoaS o.copies)]) rfl rfl rfl Tryz.underlying54 sz9 zr9 rfl rfl rfl ?_
        intro p22
        refine x_end ?_
        refine t_gr (Q := fun _ _ _ => False) ?_ t_nil
        refine x_call (R := fun v wa wb => ∃ A c, v = .agg #[.string ⟨#[81, 84, 89]⟩, .slice A 1 c] ∧ sliceRd (tySlice tyStr) (fun b => wa.heap.size ≤ b) wb (.slice A 1 c) [splitC ((⟨#[50, 49, 58]⟩ : ByteArray) ++ itoaS o.copies)]) rfl rfl rfl Tryz.func31 (by kernel_rfl) rfl (fun w1 hw1 => (c_segment (es := [(⟨#[50, 49, 58]⟩ : ByteArray) ++ itoaS o.copies]) (D := fun _ => True) ⟨#[81, 84, 89]⟩ w1 (rowS_rd (e := 9) (r := some (p22, [Value.string ((⟨#[50, 49, 58]⟩ : ByteArray) ++ itoaS o.copies)], 1)) (n := 1) (rowOK_lit rfl (by decide)) rfl (fun s hs => ok_of (z22 s hs)) hw1 (fun q hq => by rw [List.mem_singleton.1 hq]; exact (by repeat (first | exact List.Mem.head _ | apply List.Mem.tail))) (fun _ _ => trivial)) (fun s hs => Nat.le_trans (z22 s hs) (by decide)) (by show 1 ≤ 1000; decide) (hL.later (hw1.base (by simp)))).mono fun e w2 ⟨u, h1, h2, h3⟩ => seg_out h1 h2 h3) ?_
        intro v23 wa23 wb23 hm23 hl23 hR23
        obtain ⟨A23, c23, rfl, hs23⟩ := hR23
        refine x_end ?_
        refine t_flt (Q := fun _ _ _ => False) ?_
        refine x_callv rfl rfl rfl Tryz.func32 (by kernel_rfl) rfl (fun w1 hw1 => c_number o.price w1 hok.2.2.2.2.2 (hL.later (hw1.base (by simp)))) ?_
        refine x_end ?_
        refine t_flt (Q := fun _ _ _ => False) ?_
        refine x_val rfl rfl rfl (v_sadd rfl rfl (by show 4 + (itoaS _).size ≤ _; omega)) ?_
        refine x_end ?_
        refine t_gr (Q := fun _ _ _ => False) ?_ t_nil
        refine x_buildSliceL (cs := [Value.string ((⟨#[65, 65, 65, 58]⟩ : ByteArray) ++ itoaS o.price)]) rfl rfl rfl Tryz.underlying54 sz9 zr9 rfl rfl rfl ?_
        intro p28
        refine x_end ?_
        refine t_gr (Q := fun _ _ _ => False) ?_ t_nil
        refine x_call (R := fun v wa wb => ∃ A c, v = .agg #[.string ⟨#[80, 82, 73]⟩, .slice A 1 c] ∧ sliceRd (tySlice tyStr) (fun b => wa.heap.size ≤ b) wb (.slice A 1 c) [splitC ((⟨#[65, 65, 65, 58]⟩ : ByteArray) ++ itoaS o.price)]) rfl rfl rfl Tryz.func31 (by kernel_rfl) rfl (fun w1 hw1 => (c_segment (es := [(⟨#[65, 65, 65, 58]⟩ : ByteArray) ++ itoaS o.price]) (D := fun _ => True) ⟨#[80, 82, 73]⟩ w1 (rowS_rd (e := 9) (r := some (p28, [Value.string ((⟨#[65, 65, 65, 58]⟩ : ByteArray) ++ itoaS o.price)], 1)) (n := 1) (rowOK_lit rfl (by decide)) rfl (fun s hs => ok_of (z28 s hs)) hw1 (fun q hq => by rw [List.mem_singleton.1 hq]; exact (by repeat (first | exact List.Mem.head _ | apply List.Mem.tail))) (fun _ _ => trivial)) (fun s hs => Nat.le_trans (z28 s hs) (by decide)) (by show 1 ≤ 1000; decide) (hL.later (hw1.base (by simp)))).mono fun e w2 ⟨u, h1, h2, h3⟩ => seg_out h1 h2 h3) ?_
        intro v29 wa29 wb29 hm29 hl29 hR29
        obtain ⟨A29, c29, rfl, hs29⟩ := hR29
        refine x_end ?_
        refine t_flt (Q := fun _ _ _ => False) ?_
        refine x_callv rfl rfl rfl Tryz.func32 (by kernel_rfl) rfl (fun w1 hw1 => c_number o.fund w1 hok.2.1 (hL.later (hw1.base (by simp)))) ?_
        refine x_end ?_
        refine t_flt (Q := fun _ _ _ => False) ?_
        refine x_val rfl rfl rfl (v_sadd rfl rfl (by show 4 + (itoaS _).size ≤ _; omega)) ?_
        refine x_end ?_
        refine t_gr (Q := fun _ _ _ => False) ?_ t_nil
        refine x_buildSliceL (cs := [Value.string ((⟨#[66, 70, 78, 58]⟩ : ByteArray) ++ itoaS o.fund)]) rfl rfl rfl Tryz.underlying54 sz9 zr9 rfl rfl rfl ?_
        intro p34
        refine x_end ?_
        refine t_gr (Q := fun _ _ _ => False) ?_ t_nil
        refine x_call (R := fun v wa wb => ∃ A c, v = .agg #[.string ⟨#[82, 70, 70]⟩, .slice A 1 c] ∧ sliceRd (tySlice tyStr) (fun b => wa.heap.size ≤ b) wb (.slice A 1 c) [splitC ((⟨#[66, 70, 78, 58]⟩ : ByteArray) ++ itoaS o.fund)]) rfl rfl rfl Tryz.func31 (by kernel_rfl) rfl (fun w1 hw1 => (c_segment (es := [(⟨#[66, 70, 78, 58]⟩ : ByteArray) ++ itoaS o.fund]) (D := fun _ => True) ⟨#[82, 70, 70]⟩ w1 (rowS_rd (e := 9) (r := some (p34, [Value.string ((⟨#[66, 70, 78, 58]⟩ : ByteArray) ++ itoaS o.fund)], 1)) (n := 1) (rowOK_lit rfl (by decide)) rfl (fun s hs => ok_of (z34 s hs)) hw1 (fun q hq => by rw [List.mem_singleton.1 hq]; exact (by repeat (first | exact List.Mem.head _ | apply List.Mem.tail))) (fun _ _ => trivial)) (fun s hs => Nat.le_trans (z34 s hs) (by decide)) (by show 1 ≤ 1000; decide) (hL.later (hw1.base (by simp)))).mono fun e w2 ⟨u, h1, h2, h3⟩ => seg_out h1 h2 h3) ?_
        intro v35 wa35 wb35 hm35 hl35 hR35
        obtain ⟨A35, c35, rfl, hs35⟩ := hR35
        refine x_end ?_
        refine t_gr (Q := fun _ _ _ => False) ?_ t_nil
        refine x_call (R := fun v wa wb => ∃ A c, v = .agg #[.string ⟨#[85, 78, 84]⟩, .slice A 2 c] ∧ sliceRd (tySlice tyStr) (fun b => wa.heap.size ≤ b) wb (.slice A 2 c) [splitC (⟨#[55]⟩), splitC (⟨#[49]⟩)]) rfl rfl rfl Tryz.func31 (by kernel_rfl) rfl (fun w1 hw1 => (c_segment (es := [⟨#[55]⟩, ⟨#[49]⟩]) (D := fun _ => True) ⟨#[85, 78, 84]⟩ w1 (rowS_rd (e := 9) (r := some (p36, [Value.string (⟨#[55]⟩), Value.string (⟨#[49]⟩)], 2)) (n := 2) (rowOK_lit rfl (by decide)) rfl (fun s hs => ok_of (z36 s hs)) hw1 (fun q hq => by rw [List.mem_singleton.1 hq]; exact (by repeat (first | exact List.Mem.head _ | apply List.Mem.tail))) (fun _ _ => trivial)) (fun s hs => Nat.le_trans (z36 s hs) (by decide)) (by show 2 ≤ 1000; decide) (hL.later (hw1.base (by simp)))).mono fun e w2 ⟨u, h1, h2, h3⟩ => seg_out h1 h2 h3) ?_
        intro v37 wa37 wb37 hm37 hl37 hR37
        obtain ⟨A37, c37, rfl, hs37⟩ := hR37
        refine x_end ?_
        refine t_gr (Q := fun _ _ _ => False) ?_ t_nil
        refine x_buildSliceL (cs := ([[Value.string ⟨#[85, 78, 72]⟩, .slice A7 2 c7], [Value.string ⟨#[66, 71, 77]⟩, .slice A12 2 c12], [Value.string ⟨#[76, 73, 78]⟩, .slice A17 3 c17], [Value.string ⟨#[81, 84, 89]⟩, .slice A23 1 c23], [Value.string ⟨#[80, 82, 73]⟩, .slice A29 1 c29], [Value.string ⟨#[82, 70, 70]⟩, .slice A35 1 c35], [Value.string ⟨#[85, 78, 84]⟩, .slice A37 2 c37]] : List (List Value)).flatten) rfl rfl rfl Tryz.underlying29 sz49 zr49 rfl rfl rfl ?_
        intro p38
        refine x_end ?_
        refine t_flt (Q := fun _ _ _ => False) ?_
        refine x_val rfl rfl rfl (v_assign rfl) ?_
        refine x_end ?_
        refine t_done ?_
        refine x_end ?_
        refine t_norm ?_
        refine w_ret ?_
        refine ret1 rfl rfl (fun w' hm => ?_)
        rw [show orderR o = orderP o from by unfold orderR; rw [if_pos hw]]
        exact ⟨_, rfl, hm.base (by simp), RdAll.rd (e := 49) (css := [[Value.string ⟨#[85, 78, 72]⟩, .slice A7 2 c7], [Value.string ⟨#[66, 71, 77]⟩, .slice A12 2 c12], [Value.string ⟨#[76, 73, 78]⟩, .slice A17 3 c17], [Value.string ⟨#[81, 84, 89]⟩, .slice A23 1 c23], [Value.string ⟨#[80, 82, 73]⟩, .slice A29 1 c29], [Value.string ⟨#[82, 70, 70]⟩, .slice A35 1 c35], [Value.string ⟨#[85, 78, 84]⟩, .slice A37 2 c37]]) (xs := orderP o) (.cons (tySeg_mk (x := ⟨⟨#[85, 78, 72]⟩, [splitC (⟨#[49]⟩), splitC (⟨#[79, 82, 68, 69, 82, 83, 58, 68, 58, 57, 54, 65, 58, 85, 78]⟩)]⟩) rfl (show (3 : Nat) ≤ 9223372036854775807 by decide) (hs7.keep (Kept.made hm (by repeat (first | exact List.Mem.head _ | apply List.Mem.tail)) hm7 (hm7.base (by simp)).size))) (.cons (tySeg_mk (x := ⟨⟨#[66, 71, 77]⟩, [splitC (⟨#[50, 50, 48]⟩), splitC (itoaS o.id)]⟩) rfl (show (3 : Nat) ≤ 9223372036854775807 by decide) (hs12.keep (Kept.made hm (by repeat (first | exact List.Mem.head _ | apply List.Mem.tail)) hm12 (hm12.base (by simp)).size))) (.cons (tySeg_mk (x := ⟨⟨#[76, 73, 78]⟩, [splitC (⟨#[49]⟩), splitC (⟨#[]⟩), splitC (artS o.src o.num)]⟩) rfl (show (3 : Nat) ≤ 9223372036854775807 by decide) (hs17.keep (Kept.made hm (by repeat (first | exact List.Mem.head _ | apply List.Mem.tail)) hm17 (hm17.base (by simp)).size))) (.cons (tySeg_mk (x := ⟨⟨#[81, 84, 89]⟩, [splitC ((⟨#[50, 49, 58]⟩ : ByteArray) ++ itoaS o.copies)]⟩) rfl (show (3 : Nat) ≤ 9223372036854775807 by decide) (hs23.keep (Kept.made hm (by repeat (first | exact List.Mem.head _ | apply List.Mem.tail)) hm23 (hm23.base (by simp)).size))) (.cons (tySeg_mk (x := ⟨⟨#[80, 82, 73]⟩, [splitC ((⟨#[65, 65, 65, 58]⟩ : ByteArray) ++ itoaS o.price)]⟩) rfl (show (3 : Nat) ≤ 9223372036854775807 by decide) (hs29.keep (Kept.made hm (by repeat (first | exact List.Mem.head _ | apply List.Mem.tail)) hm29 (hm29.base (by simp)).size))) (.cons (tySeg_mk (x := ⟨⟨#[82, 70, 70]⟩, [splitC ((⟨#[66, 70, 78, 58]⟩ : ByteArray) ++ itoaS o.fund)]⟩) rfl (show (3 : Nat) ≤ 9223372036854775807 by decide) (hs35.keep (Kept.made hm (by repeat (first | exact List.Mem.head _ | apply List.Mem.tail)) hm35 (hm35.base (by simp)).size))) (.cons (tySeg_mk (x := ⟨⟨#[85, 78, 84]⟩, [splitC (⟨#[55]⟩), splitC (⟨#[49]⟩)]⟩) rfl (show (3 : Nat) ≤ 9223372036854775807 by decide) (hs37.keep (Kept.made hm (by repeat (first | exact List.Mem.head _ | apply List.Mem.tail)) hm37 (hm37.base (by simp)).size))) (.nil)))))))) hm (.head _) (by repeat (first | exact List.Mem.head _ | apply List.Mem.tail)) rfl (show (7 : Nat) ≤ maxLen by decide), fun h => absurd (show (7 : Nat) = 0 from h) (by decide)⟩
      refine t_gr (Q := fun _ _ _ => False) ?_ t_nil
      refine x_buildSliceL (cs := [Value.string (⟨#[55]⟩), Value.string (⟨#[49]⟩)]) rfl rfl rfl Tryz.underlying54 sz9 zr9 rfl rfl rfl ?_
      intro p36
      refine x_end ?_
      refine t_gr (Q := fun _ _ _ => False) ?_ t_nil
      refine x_call (R := fun v wa wb => ∃ A c, v = .agg #[.string ⟨#[85, 78, 72]⟩, .slice A 2 c] ∧ sliceRd (tySlice tyStr) (fun b => wa.heap.size ≤ b) wb (.slice A 2 c) [splitC (⟨#[49]⟩), splitC (⟨#[79, 82, 68, 69, 82, 83, 58, 68, 58, 57, 54, 65, 58, 85, 78]⟩)]) rfl rfl rfl Tryz.func31 (by kernel_rfl) rfl (fun w1 hw1 => (c_segment (es := [⟨#[49]⟩, ⟨#[79, 82, 68, 69, 82, 83, 58, 68, 58, 57, 54, 65, 58, 85, 78]⟩]) (D := fun _ => True) ⟨#[85, 78, 72]⟩ w1 (rowS_rd (e := 9) (r := some (p6, [Value.string (⟨#[49]⟩), Value.string (⟨#[79, 82, 68, 69, 82, 83, 58, 68, 58, 57, 54, 65, 58, 85, 78]⟩)], 2)) (n := 2) (rowOK_lit rfl (by decide)) rfl (fun s hs => ok_of (z6 s hs)) hw1 (fun q hq => by rw [List.mem_singleton.1 hq]; exact (by repeat (first | exact List.Mem.head _ | apply List.Mem.tail))) (fun _ _ => trivial)) (fun s hs => Nat.le_trans (z6 s hs) (by decide)) (by show 2 ≤ 1000; decide) (hL.later (hw1.base (by simp)))).mono fun e w2 ⟨u, h1, h2, h3⟩ => seg_out h1 h2 h3) ?_
      intro v7 wa7 wb7 hm7 hl7 hR7
      obtain ⟨A7, c7, rfl, hs7⟩ := hR7
      refine x_end ?_
      refine t_flt (Q := fun _ _ _ => False) ?_
      refine x_callv rfl rfl rfl Tryz.func32 (by kernel_rfl) rfl (fun w1 hw1 => c_number o.id w1 hok.1 (hL.later (hw1.base (by simp)))) ?_
      refine x_end ?_
      refine t_gr (Q := fun _ _ _ => False) ?_ t_nil
      refine x_buildSliceL (cs := [Value.string (⟨#[50, 50, 48]⟩), Value.string (itoaS o.id)]) rfl rfl rfl Tryz.underlying54 sz9 zr9 rfl rfl rfl ?_
      intro p11
      refine x_end ?_
      refine t_gr (Q := fun _ _ _ => False) ?_ t_nil
      refine x_call (R := fun v wa wb => ∃ A c, v = .agg #[.string ⟨#[66, 71, 77]⟩, .slice A 2 c] ∧ sliceRd (tySlice tyStr) (fun b => wa.heap.size ≤ b) wb (.slice A 2 c) [splitC (⟨#[50, 50, 48]⟩), splitC (itoaS o.id)]) rfl rfl rfl Tryz.func31 (by kernel_rfl) rfl (fun w1 hw1 => (c_segment (es := [⟨#[50, 50, 48]⟩, itoaS o.id]) (D := fun _ => True) ⟨#[66, 71, 77]⟩ w1 (rowS_rd (e := 9) (r := some (p11, [Value.string (⟨#[50, 50, 48]⟩), Value.string (itoaS o.id)], 2)) (n := 2) (rowOK_lit rfl (by decide)) rfl (fun s hs => ok_of (z11 s hs)) hw1 (fun q hq => by rw [List.mem_singleton.1 hq]; exact (by repeat (first | exact List.Mem.head _ | apply List.Mem.tail))) (fun _ _ => trivial)) (fun s hs => Nat.le_trans (z11 s hs) (by decide)) (by show 2 ≤ 1000; decide) (hL.later (hw1.base (by simp)))).mono fun e w2 ⟨u, h1, h2, h3⟩ => seg_out h1 h2 h3) ?_
      intro v12 wa12 wb12 hm12 hl12 hR12
      obtain ⟨A12, c12, rfl, hs12⟩ := hR12
      refine x_end ?_
      refine t_flt (Q := fun _ _ _ => False) ?_
      refine x_callv rfl rfl rfl Tryz.func33 (by kernel_rfl) rfl (fun w1 hw1 => c_article o.src o.num w1 hok.2.2.1 hok.2.2.2.1 (hL.later (hw1.base (by simp)))) ?_
      refine x_end ?_
      refine t_gr (Q := fun _ _ _ => False) ?_ t_nil
      refine x_buildSliceL (cs := [Value.string (⟨#[49]⟩), Value.string (⟨#[]⟩), Value.string (artS o.src o.num)]) rfl rfl rfl Tryz.underlying54 sz9 zr9 rfl rfl rfl ?_
      intro p16
      refine x_end ?_
      refine t_gr (Q := fun _ _ _ => False) ?_ t_nil
      refine x_call (R := fun v wa wb => ∃ A c, v = .agg #[.string ⟨#[76, 73, 78]⟩, .slice A 3 c] ∧ sliceRd (tySlice tyStr) (fun b => wa.heap.size ≤ b) wb (.slice A 3 c) [splitC (⟨#[49]⟩), splitC (⟨#[]⟩), splitC (artS o.src o.num)]) rfl rfl rfl Tryz.func31 (by kernel_rfl) rfl (fun w1 hw1 => (c_segment (es := [⟨#[49]⟩, ⟨#[]⟩, artS o.src o.num]) (D := fun _ => True) ⟨#[76, 73, 78]⟩ w1 (rowS_rd (e := 9) (r := some (p16, [Value.string (⟨#[49]⟩), Value.string (⟨#[]⟩), Value.string (artS o.src o.num)], 3)) (n := 3) (rowOK_lit rfl (by decide)) rfl (fun s hs => ok_of (z16 s hs)) hw1 (fun q hq => by rw [List.mem_singleton.1 hq]; exact (by repeat (first | exact List.Mem.head _ | apply List.Mem.tail))) (fun _ _ => trivial)) (fun s hs => Nat.le_trans (z16 s hs) (by decide)) (by show 3 ≤ 1000; decide) (hL.later (hw1.base (by simp)))).mono fun e w2 ⟨u, h1, h2, h3⟩ => seg_out h1 h2 h3) ?_
      intro v17 wa17 wb17 hm17 hl17 hR17
      obtain ⟨A17, c17, rfl, hs17⟩ := hR17
      refine x_end ?_
      refine t_flt (Q := fun _ _ _ => False) ?_
      refine x_callv rfl rfl rfl Tryz.func32 (by kernel_rfl) rfl (fun w1 hw1 => c_number o.copies w1 hok.2.2.2.2.1 (hL.later (hw1.base (by simp)))) ?_
      refine x_end ?_
      refine t_flt (Q := fun _ _ _ => False) ?_
      refine x_val rfl rfl rfl (v_sadd rfl rfl (by show 3 + (itoaS _).size ≤ _; omega)) ?_
      refine x_end ?_
      refine t_gr (Q := fun _ _ _ => False) ?_ t_nil
      refine x_buildSliceL (cs := [Value.string ((⟨#[50, 49, 58]⟩ : ByteArray) ++ itoaS o.copies)]) rfl rfl rfl Tryz.underlying54 sz9 zr9 rfl rfl rfl ?_
      intro p22
      refine x_end ?_
      refine t_gr (Q := fun _ _ _ => False) ?_ t_nil
      refine x_call (R := fun v wa wb => ∃ A c, v = .agg #[.string ⟨#[81, 84, 89]⟩, .slice A 1 c] ∧ sliceRd (tySlice tyStr) (fun b => wa.heap.size ≤ b) wb (.slice A 1 c) [splitC ((⟨#[50, 49, 58]⟩ : ByteArray) ++ itoaS o.copies)]) rfl rfl rfl Tryz.func31 (by kernel_rfl) rfl (fun w1 hw1 => (c_segment (es := [(⟨#[50, 49, 58]⟩ : ByteArray) ++ itoaS o.copies]) (D := fun _ => True) ⟨#[81, 84, 89]⟩ w1 (rowS_rd (e := 9) (r := some (p22, [Value.string ((⟨#[50, 49, 58]⟩ : ByteArray) ++ itoaS o.copies)], 1)) (n := 1) (rowOK_lit rfl (by decide)) rfl (fun s hs => ok_of (z22 s hs)) hw1 (fun q hq => by rw [List.mem_singleton.1 hq]; exact (by repeat (first | exact List.Mem.head _ | apply List.Mem.tail))) (fun _ _ => trivial)) (fun s hs => Nat.le_trans (z22 s hs) (by decide)) (by show 1 ≤ 1000; decide) (hL.later (hw1.base (by simp)))).mono fun e w2 ⟨u, h1, h2, h3⟩ => seg_out h1 h2 h3) ?_
      intro v23 wa23 wb23 hm23 hl23 hR23
      obtain ⟨A23, c23, rfl, hs23⟩ := hR23
      refine x_end ?_
      refine t_flt (Q := fun _ _ _ => False) ?_
      refine x_callv rfl rfl rfl Tryz.func32 (by kernel_rfl) rfl (fun w1 hw1 => c_number o.price w1 hok.2.2.2.2.2 (hL.later (hw1.base (by simp)))) ?_
      refine x_end ?_
      refine t_flt (Q := fun _ _ _ => False) ?_
      refine x_val rfl rfl rfl (v_sadd rfl rfl (by show 4 + (itoaS _).size ≤ _; omega)) ?_
      refine x_end ?_
      refine t_gr (Q := fun _ _ _ => False) ?_ t_nil
      refine x_buildSliceL (cs := [Value.string ((⟨#[65, 65, 65, 58]⟩ : ByteArray) ++ itoaS o.price)]) rfl rfl rfl Tryz.underlying54 sz9 zr9 rfl rfl rfl ?_
      intro p28
      refine x_end ?_
      refine t_gr (Q := fun _ _ _ => False) ?_ t_nil
      refine x_call (R := fun v wa wb => ∃ A c, v = .agg #[.string ⟨#[80, 82, 73]⟩, .slice A 1 c] ∧ sliceRd (tySlice tyStr) (fun b => wa.heap.size ≤ b) wb (.slice A 1 c) [splitC ((⟨#[65, 65, 65, 58]⟩ : ByteArray) ++ itoaS o.price)]) rfl rfl rfl Tryz.func31 (by kernel_rfl) rfl (fun w1 hw1 => (c_segment (es := [(⟨#[65, 65, 65, 58]⟩ : ByteArray) ++ itoaS o.price]) (D := fun _ => True) ⟨#[80, 82, 73]⟩ w1 (rowS_rd (e := 9) (r := some (p28, [Value.string ((⟨#[65, 65, 65, 58]⟩ : ByteArray) ++ itoaS o.price)], 1)) (n := 1) (rowOK_lit rfl (by decide)) rfl (fun s hs => ok_of (z28 s hs)) hw1 (fun q hq => by rw [List.mem_singleton.1 hq]; exact (by repeat (first | exact List.Mem.head _ | apply List.Mem.tail))) (fun _ _ => trivial)) (fun s hs => Nat.le_trans (z28 s hs) (by decide)) (by show 1 ≤ 1000; decide) (hL.later (hw1.base (by simp)))).mono fun e w2 ⟨u, h1, h2, h3⟩ => seg_out h1 h2 h3) ?_
      intro v29 wa29 wb29 hm29 hl29 hR29
      obtain ⟨A29, c29, rfl, hs29⟩ := hR29
      refine x_end ?_
      refine t_flt (Q := fun _ _ _ => False) ?_
      refine x_callv rfl rfl rfl Tryz.func32 (by kernel_rfl) rfl (fun w1 hw1 => c_number o.fund w1 hok.2.1 (hL.later (hw1.base (by simp)))) ?_
      refine x_end ?_
      refine t_flt (Q := fun _ _ _ => False) ?_
      refine x_val rfl rfl rfl (v_sadd rfl rfl (by show 4 + (itoaS _).size ≤ _; omega)) ?_
      refine x_end ?_
      refine t_gr (Q := fun _ _ _ => False) ?_ t_nil
      refine x_buildSliceL (cs := [Value.string ((⟨#[66, 70, 78, 58]⟩ : ByteArray) ++ itoaS o.fund)]) rfl rfl rfl Tryz.underlying54 sz9 zr9 rfl rfl rfl ?_
      intro p34
      refine x_end ?_
      refine t_gr (Q := fun _ _ _ => False) ?_ t_nil
      refine x_call (R := fun v wa wb => ∃ A c, v = .agg #[.string ⟨#[82, 70, 70]⟩, .slice A 1 c] ∧ sliceRd (tySlice tyStr) (fun b => wa.heap.size ≤ b) wb (.slice A 1 c) [splitC ((⟨#[66, 70, 78, 58]⟩ : ByteArray) ++ itoaS o.fund)]) rfl rfl rfl Tryz.func31 (by kernel_rfl) rfl (fun w1 hw1 => (c_segment (es := [(⟨#[66, 70, 78, 58]⟩ : ByteArray) ++ itoaS o.fund]) (D := fun _ => True) ⟨#[82, 70, 70]⟩ w1 (rowS_rd (e := 9) (r := some (p34, [Value.string ((⟨#[66, 70, 78, 58]⟩ : ByteArray) ++ itoaS o.fund)], 1)) (n := 1) (rowOK_lit rfl (by decide)) rfl (fun s hs => ok_of (z34 s hs)) hw1 (fun q hq => by rw [List.mem_singleton.1 hq]; exact (by repeat (first | exact List.Mem.head _ | apply List.Mem.tail))) (fun _ _ => trivial)) (fun s hs => Nat.le_trans (z34 s hs) (by decide)) (by show 1 ≤ 1000; decide) (hL.later (hw1.base (by simp)))).mono fun e w2 ⟨u, h1, h2, h3⟩ => seg_out h1 h2 h3) ?_
      intro v35 wa35 wb35 hm35 hl35 hR35
      obtain ⟨A35, c35, rfl, hs35⟩ := hR35
      refine x_end ?_
      refine t_gr (Q := fun _ _ _ => False) ?_ t_nil
      refine x_call (R := fun v wa wb => ∃ A c, v = .agg #[.string ⟨#[85, 78, 84]⟩, .slice A 2 c] ∧ sliceRd (tySlice tyStr) (fun b => wa.heap.size ≤ b) wb (.slice A 2 c) [splitC (⟨#[55]⟩), splitC (⟨#[49]⟩)]) rfl rfl rfl Tryz.func31 (by kernel_rfl) rfl (fun w1 hw1 => (c_segment (es := [⟨#[55]⟩, ⟨#[49]⟩]) (D := fun _ => True) ⟨#[85, 78, 84]⟩ w1 (rowS_rd (e := 9) (r := some (p36, [Value.string (⟨#[55]⟩), Value.string (⟨#[49]⟩)], 2)) (n := 2) (rowOK_lit rfl (by decide)) rfl (fun s hs => ok_of (z36 s hs)) hw1 (fun q hq => by rw [List.mem_singleton.1 hq]; exact (by repeat (first | exact List.Mem.head _ | apply List.Mem.tail))) (fun _ _ => trivial)) (fun s hs => Nat.le_trans (z36 s hs) (by decide)) (by show 2 ≤ 1000; decide) (hL.later (hw1.base (by simp)))).mono fun e w2 ⟨u, h1, h2, h3⟩ => seg_out h1 h2 h3) ?_
      intro v37 wa37 wb37 hm37 hl37 hR37
      obtain ⟨A37, c37, rfl, hs37⟩ := hR37
      refine x_end ?_
      refine t_gr (Q := fun _ _ _ => False) ?_ t_nil
      refine x_buildSliceL (cs := ([[Value.string ⟨#[85, 78, 72]⟩, .slice A7 2 c7], [Value.string ⟨#[66, 71, 77]⟩, .slice A12 2 c12], [Value.string ⟨#[76, 73, 78]⟩, .slice A17 3 c17], [Value.string ⟨#[81, 84, 89]⟩, .slice A23 1 c23], [Value.string ⟨#[80, 82, 73]⟩, .slice A29 1 c29], [Value.string ⟨#[82, 70, 70]⟩, .slice A35 1 c35], [Value.string ⟨#[85, 78, 84]⟩, .slice A37 2 c37]] : List (List Value)).flatten) rfl rfl rfl Tryz.underlying29 sz49 zr49 rfl rfl rfl ?_
      intro p38
      refine x_end ?_
      refine t_flt (Q := fun _ _ _ => False) ?_
      refine x_val rfl rfl rfl (v_assign rfl) ?_
      refine x_end ?_
      refine t_done ?_
      refine x_end ?_
      refine t_norm ?_
      refine w_ret ?_
      refine ret1 rfl rfl (fun w' hm => ?_)
      rw [show orderR o = orderP o from by unfold orderR; rw [if_pos hw]]
      exact ⟨_, rfl, hm.base (by simp), RdAll.rd (e := 49) (css := [[Value.string ⟨#[85, 78, 72]⟩, .slice A7 2 c7], [Value.string ⟨#[66, 71, 77]⟩, .slice A12 2 c12], [Value.string ⟨#[76, 73, 78]⟩, .slice A17 3 c17], [Value.string ⟨#[81, 84, 89]⟩, .slice A23 1 c23], [Value.string ⟨#[80, 82, 73]⟩, .slice A29 1 c29], [Value.string ⟨#[82, 70, 70]⟩, .slice A35 1 c35], [Value.string ⟨#[85, 78, 84]⟩, .slice A37 2 c37]]) (xs := orderP o) (.cons (tySeg_mk (x := ⟨⟨#[85, 78, 72]⟩, [splitC (⟨#[49]⟩), splitC (⟨#[79, 82, 68, 69, 82, 83, 58, 68, 58, 57, 54, 65, 58, 85, 78]⟩)]⟩) rfl (show (3 : Nat) ≤ 9223372036854775807 by decide) (hs7.keep (Kept.made hm (by repeat (first | exact List.Mem.head _ | apply List.Mem.tail)) hm7 (hm7.base (by simp)).size))) (.cons (tySeg_mk (x := ⟨⟨#[66, 71, 77]⟩, [splitC (⟨#[50, 50, 48]⟩), splitC (itoaS o.id)]⟩) rfl (show (3 : Nat) ≤ 9223372036854775807 by decide) (hs12.keep (Kept.made hm (by repeat (first | exact List.Mem.head _ | apply List.Mem.tail)) hm12 (hm12.base (by simp)).size))) (.cons (tySeg_mk (x := ⟨⟨#[76, 73, 78]⟩, [splitC (⟨#[49]⟩), splitC (⟨#[]⟩), splitC (artS o.src o.num)]⟩) rfl (show (3 : Nat) ≤ 9223372036854775807 by decide) (hs17.keep (Kept.made hm (by repeat (first | exact List.Mem.head _ | apply List.Mem.tail)) hm17 (hm17.base (by simp)).size))) (.cons (tySeg_mk (x := ⟨⟨#[81, 84, 89]⟩, [splitC ((⟨#[50, 49, 58]⟩ : ByteArray) ++ itoaS o.copies)]⟩) rfl (show (3 : Nat) ≤ 9223372036854775807 by decide) (hs23.keep (Kept.made hm (by repeat (first | exact List.Mem.head _ | apply List.Mem.tail)) hm23 (hm23.base (by simp)).size))) (.cons (tySeg_mk (x := ⟨⟨#[80, 82, 73]⟩, [splitC ((⟨#[65, 65, 65, 58]⟩ : ByteArray) ++ itoaS o.price)]⟩) rfl (show (3 : Nat) ≤ 9223372036854775807 by decide) (hs29.keep (Kept.made hm (by repeat (first | exact List.Mem.head _ | apply List.Mem.tail)) hm29 (hm29.base (by simp)).size))) (.cons (tySeg_mk (x := ⟨⟨#[82, 70, 70]⟩, [splitC ((⟨#[66, 70, 78, 58]⟩ : ByteArray) ++ itoaS o.fund)]⟩) rfl (show (3 : Nat) ≤ 9223372036854775807 by decide) (hs35.keep (Kept.made hm (by repeat (first | exact List.Mem.head _ | apply List.Mem.tail)) hm35 (hm35.base (by simp)).size))) (.cons (tySeg_mk (x := ⟨⟨#[85, 78, 84]⟩, [splitC (⟨#[55]⟩), splitC (⟨#[49]⟩)]⟩) rfl (show (3 : Nat) ≤ 9223372036854775807 by decide) (hs37.keep (Kept.made hm (by repeat (first | exact List.Mem.head _ | apply List.Mem.tail)) hm37 (hm37.base (by simp)).size))) (.nil)))))))) hm (.head _) (by repeat (first | exact List.Mem.head _ | apply List.Mem.tail)) rfl (show (7 : Nat) ≤ maxLen by decide), fun h => absurd (show (7 : Nat) = 0 from h) (by decide)⟩
    refine t_gr (Q := fun _ _ _ => False) ?_ t_nil
    refine x_buildSliceL (cs := [Value.string (⟨#[55]⟩), Value.string (⟨#[49]⟩)]) rfl rfl rfl Tryz.underlying54 sz9 zr9 rfl rfl rfl ?_
    intro p36
    refine x_end ?_
    refine t_gr (Q := fun _ _ _ => False) ?_ t_nil
    refine x_buildSliceL (cs := [Value.string (⟨#[49]⟩), Value.string (⟨#[79, 82, 68, 69, 82, 83, 58, 68, 58, 57, 54, 65, 58, 85, 78]⟩)]) rfl rfl rfl Tryz.underlying54 sz9 zr9 rfl rfl rfl ?_
    intro p6
    refine x_end ?_
    refine t_gr (Q := fun _ _ _ => False) ?_ t_nil
    refine x_call (R := fun v wa wb => ∃ A c, v = .agg #[.string ⟨#[85, 78, 72]⟩, .slice A 2 c] ∧ sliceRd (tySlice tyStr) (fun b => wa.heap.size ≤ b) wb (.slice A 2 c) [splitC (⟨#[49]⟩), splitC (⟨#[79, 82, 68, 69, 82, 83, 58, 68, 58, 57, 54, 65, 58, 85, 78]⟩)]) rfl rfl rfl Tryz.func31 (by kernel_rfl) rfl (fun w1 hw1 => (c_segment (es := [⟨#[49]⟩, ⟨#[79, 82, 68, 69, 82, 83, 58, 68, 58, 57, 54, 65, 58, 85, 78]⟩]) (D := fun _ => True) ⟨#[85, 78, 72]⟩ w1 (rowS_rd (e := 9) (r := some (p6, [Value.string (⟨#[49]⟩), Value.string (⟨#[79, 82, 68, 69, 82, 83, 58, 68, 58, 57, 54, 65, 58, 85, 78]⟩)], 2)) (n := 2) (rowOK_lit rfl (by decide)) rfl (fun s hs => ok_of (z6 s hs)) hw1 (fun q hq => by rw [List.mem_singleton.1 hq]; exact (by repeat (first | exact List.Mem.head _ | apply List.Mem.tail))) (fun _ _ => trivial)) (fun s hs => Nat.le_trans (z6 s hs) (by decide)) (by show 2 ≤ 1000; decide) (hL.later (hw1.base (by simp)))).mono fun e w2 ⟨u, h1, h2, h3⟩ => seg_out h1 h2 h3) ?_
    intro v7 wa7 wb7 hm7 hl7 hR7
    obtain ⟨A7, c7, rfl, hs7⟩ := hR7
    refine x_end ?_
    refine t_flt (Q := fun _ _ _ => False) ?_
    refine x_callv rfl rfl rfl Tryz.func32 (by kernel_rfl) rfl (fun w1 hw1 => c_number o.id w1 hok.1 (hL.later (hw1.base (by simp)))) ?_
    refine x_end ?_
    refine t_gr (Q := fun _ _ _ => False) ?_ t_nil
    refine x_buildSliceL (cs := [Value.string (⟨#[50, 50, 48]⟩), Value.string (itoaS o.id)]) rfl rfl rfl Tryz.underlying54 sz9 zr9 rfl rfl rfl ?_
    intro p11
    refine x_end ?_
    refine t_gr (Q := fun _ _ _ => False) ?_ t_nil
    refine x_call (R := fun v wa wb => ∃ A c, v = .agg #[.string ⟨#[66, 71, 77]⟩, .slice A 2 c] ∧ sliceRd (tySlice tyStr) (fun b => wa.heap.size ≤ b) wb (.slice A 2 c) [splitC (⟨#[50, 50, 48]⟩), splitC (itoaS o.id)]) rfl rfl rfl Tryz.func31 (by kernel_rfl) rfl (fun w1 hw1 => (c_segment (es := [⟨#[50, 50, 48]⟩, itoaS o.id]) (D := fun _ => True) ⟨#[66, 71, 77]⟩ w1 (rowS_rd (e := 9) (r := some (p11, [Value.string (⟨#[50, 50, 48]⟩), Value.string (itoaS o.id)], 2)) (n := 2) (rowOK_lit rfl (by decide)) rfl (fun s hs => ok_of (z11 s hs)) hw1 (fun q hq => by rw [List.mem_singleton.1 hq]; exact (by repeat (first | exact List.Mem.head _ | apply List.Mem.tail))) (fun _ _ => trivial)) (fun s hs => Nat.le_trans (z11 s hs) (by decide)) (by show 2 ≤ 1000; decide) (hL.later (hw1.base (by simp)))).mono fun e w2 ⟨u, h1, h2, h3⟩ => seg_out h1 h2 h3) ?_
    intro v12 wa12 wb12 hm12 hl12 hR12
    obtain ⟨A12, c12, rfl, hs12⟩ := hR12
    refine x_end ?_
    refine t_flt (Q := fun _ _ _ => False) ?_
    refine x_callv rfl rfl rfl Tryz.func33 (by kernel_rfl) rfl (fun w1 hw1 => c_article o.src o.num w1 hok.2.2.1 hok.2.2.2.1 (hL.later (hw1.base (by simp)))) ?_
    refine x_end ?_
    refine t_gr (Q := fun _ _ _ => False) ?_ t_nil
    refine x_buildSliceL (cs := [Value.string (⟨#[49]⟩), Value.string (⟨#[]⟩), Value.string (artS o.src o.num)]) rfl rfl rfl Tryz.underlying54 sz9 zr9 rfl rfl rfl ?_
    intro p16
    refine x_end ?_
    refine t_gr (Q := fun _ _ _ => False) ?_ t_nil
    refine x_call (R := fun v wa wb => ∃ A c, v = .agg #[.string ⟨#[76, 73, 78]⟩, .slice A 3 c] ∧ sliceRd (tySlice tyStr) (fun b => wa.heap.size ≤ b) wb (.slice A 3 c) [splitC (⟨#[49]⟩), splitC (⟨#[]⟩), splitC (artS o.src o.num)]) rfl rfl rfl Tryz.func31 (by kernel_rfl) rfl (fun w1 hw1 => (c_segment (es := [⟨#[49]⟩, ⟨#[]⟩, artS o.src o.num]) (D := fun _ => True) ⟨#[76, 73, 78]⟩ w1 (rowS_rd (e := 9) (r := some (p16, [Value.string (⟨#[49]⟩), Value.string (⟨#[]⟩), Value.string (artS o.src o.num)], 3)) (n := 3) (rowOK_lit rfl (by decide)) rfl (fun s hs => ok_of (z16 s hs)) hw1 (fun q hq => by rw [List.mem_singleton.1 hq]; exact (by repeat (first | exact List.Mem.head _ | apply List.Mem.tail))) (fun _ _ => trivial)) (fun s hs => Nat.le_trans (z16 s hs) (by decide)) (by show 3 ≤ 1000; decide) (hL.later (hw1.base (by simp)))).mono fun e w2 ⟨u, h1, h2, h3⟩ => seg_out h1 h2 h3) ?_
    intro v17 wa17 wb17 hm17 hl17 hR17
    obtain ⟨A17, c17, rfl, hs17⟩ := hR17
    refine x_end ?_
    refine t_flt (Q := fun _ _ _ => False) ?_
    refine x_callv rfl rfl rfl Tryz.func32 (by kernel_rfl) rfl (fun w1 hw1 => c_number o.copies w1 hok.2.2.2.2.1 (hL.later (hw1.base (by simp)))) ?_
    refine x_end ?_
    refine t_flt (Q := fun _ _ _ => False) ?_
    refine x_val rfl rfl rfl (v_sadd rfl rfl (by show 3 + (itoaS _).size ≤ _; omega)) ?_
    refine x_end ?_
    refine t_gr (Q := fun _ _ _ => False) ?_ t_nil
    refine x_buildSliceL (cs := [Value.string ((⟨#[50, 49, 58]⟩ : ByteArray) ++ itoaS o.copies)]) rfl rfl rfl Tryz.underlying54 sz9 zr9 rfl rfl rfl ?_
    intro p22
    refine x_end ?_
    refine t_gr (Q := fun _ _ _ => False) ?_ t_nil
    refine x_call (R := fun v wa wb => ∃ A c, v = .agg #[.string ⟨#[81, 84, 89]⟩, .slice A 1 c] ∧ sliceRd (tySlice tyStr) (fun b => wa.heap.size ≤ b) wb (.slice A 1 c) [splitC ((⟨#[50, 49, 58]⟩ : ByteArray) ++ itoaS o.copies)]) rfl rfl rfl Tryz.func31 (by kernel_rfl) rfl (fun w1 hw1 => (c_segment (es := [(⟨#[50, 49, 58]⟩ : ByteArray) ++ itoaS o.copies]) (D := fun _ => True) ⟨#[81, 84, 89]⟩ w1 (rowS_rd (e := 9) (r := some (p22, [Value.string ((⟨#[50, 49, 58]⟩ : ByteArray) ++ itoaS o.copies)], 1)) (n := 1) (rowOK_lit rfl (by decide)) rfl (fun s hs => ok_of (z22 s hs)) hw1 (fun q hq => by rw [List.mem_singleton.1 hq]; exact (by repeat (first | exact List.Mem.head _ | apply List.Mem.tail))) (fun _ _ => trivial)) (fun s hs => Nat.le_trans (z22 s hs) (by decide)) (by show 1 ≤ 1000; decide) (hL.later (hw1.base (by simp)))).mono fun e w2 ⟨u, h1, h2, h3⟩ => seg_out h1 h2 h3) ?_
    intro v23 wa23 wb23 hm23 hl23 hR23
    obtain ⟨A23, c23, rfl, hs23⟩ := hR23
    refine x_end ?_
    refine t_flt (Q := fun _ _ _ => False) ?_
    refine x_callv rfl rfl rfl Tryz.func32 (by kernel_rfl) rfl (fun w1 hw1 => c_number o.price w1 hok.2.2.2.2.2 (hL.later (hw1.base (by simp)))) ?_
    refine x_end ?_
    refine t_flt (Q := fun _ _ _ => False) ?_
    refine x_val rfl rfl rfl (v_sadd rfl rfl (by show 4 + (itoaS _).size ≤ _; omega)) ?_
    refine x_end ?_
    refine t_gr (Q := fun _ _ _ => False) ?_ t_nil
    refine x_buildSliceL (cs := [Value.string ((⟨#[65, 65, 65, 58]⟩ : ByteArray) ++ itoaS o.price)]) rfl rfl rfl Tryz.underlying54 sz9 zr9 rfl rfl rfl ?_
    intro p28
    refine x_end ?_
    refine t_gr (Q := fun _ _ _ => False) ?_ t_nil
    refine x_call (R := fun v wa wb => ∃ A c, v = .agg #[.string ⟨#[80, 82, 73]⟩, .slice A 1 c] ∧ sliceRd (tySlice tyStr) (fun b => wa.heap.size ≤ b) wb (.slice A 1 c) [splitC ((⟨#[65, 65, 65, 58]⟩ : ByteArray) ++ itoaS o.price)]) rfl rfl rfl Tryz.func31 (by kernel_rfl) rfl (fun w1 hw1 => (c_segment (es := [(⟨#[65, 65, 65, 58]⟩ : ByteArray) ++ itoaS o.price]) (D := fun _ => True) ⟨#[80, 82, 73]⟩ w1 (rowS_rd (e := 9) (r := some (p28, [Value.string ((⟨#[65, 65, 65, 58]⟩ : ByteArray) ++ itoaS o.price)], 1)) (n := 1) (rowOK_lit rfl (by decide)) rfl (fun s hs => ok_of (z28 s hs)) hw1 (fun q hq => by rw [List.mem_singleton.1 hq]; exact (by repeat (first | exact List.Mem.head _ | apply List.Mem.tail))) (fun _ _ => trivial)) (fun s hs => Nat.le_trans (z28 s hs) (by decide)) (by show 1 ≤ 1000; decide) (hL.later (hw1.base (by simp)))).mono fun e w2 ⟨u, h1, h2, h3⟩ => seg_out h1 h2 h3) ?_
    intro v29 wa29 wb29 hm29 hl29 hR29
    obtain ⟨A29, c29, rfl, hs29⟩ := hR29
    refine x_end ?_
    refine t_flt (Q := fun _ _ _ => False) ?_
    refine x_callv rfl rfl rfl Tryz.func32 (by kernel_rfl) rfl (fun w1 hw1 => c_number o.fund w1 hok.2.1 (hL.later (hw1.base (by simp)))) ?_
    refine x_end ?_
    refine t_flt (Q := fun _ _ _ => False) ?_
    refine x_val rfl rfl rfl (v_sadd rfl rfl (by show 4 + (itoaS _).size ≤ _; omega)) ?_
    refine x_end ?_
    refine t_gr (Q := fun _ _ _ => False) ?_ t_nil
    refine x_buildSliceL (cs := [Value.string ((⟨#[66, 70, 78, 58]⟩ : ByteArray) ++ itoaS o.fund)]) rfl rfl rfl Tryz.underlying54 sz9 zr9 rfl rfl rfl ?_
    intro p34
    refine x_end ?_
    refine t_gr (Q := fun _ _ _ => False) ?_ t_nil
    refine x_call (R := fun v wa wb => ∃ A c, v = .agg #[.string ⟨#[82, 70, 70]⟩, .slice A 1 c] ∧ sliceRd (tySlice tyStr) (fun b => wa.heap.size ≤ b) wb (.slice A 1 c) [splitC ((⟨#[66, 70, 78, 58]⟩ : ByteArray) ++ itoaS o.fund)]) rfl rfl rfl Tryz.func31 (by kernel_rfl) rfl (fun w1 hw1 => (c_segment (es := [(⟨#[66, 70, 78, 58]⟩ : ByteArray) ++ itoaS o.fund]) (D := fun _ => True) ⟨#[82, 70, 70]⟩ w1 (rowS_rd (e := 9) (r := some (p34, [Value.string ((⟨#[66, 70, 78, 58]⟩ : ByteArray) ++ itoaS o.fund)], 1)) (n := 1) (rowOK_lit rfl (by decide)) rfl (fun s hs => ok_of (z34 s hs)) hw1 (fun q hq => by rw [List.mem_singleton.1 hq]; exact (by repeat (first | exact List.Mem.head _ | apply List.Mem.tail))) (fun _ _ => trivial)) (fun s hs => Nat.le_trans (z34 s hs) (by decide)) (by show 1 ≤ 1000; decide) (hL.later (hw1.base (by simp)))).mono fun e w2 ⟨u, h1, h2, h3⟩ => seg_out h1 h2 h3) ?_
    intro v35 wa35 wb35 hm35 hl35 hR35
    obtain ⟨A35, c35, rfl, hs35⟩ := hR35
    refine x_end ?_
    refine t_gr (Q := fun _ _ _ => False) ?_ t_nil
    refine x_call (R := fun v wa wb => ∃ A c, v = .agg #[.string ⟨#[85, 78, 84]⟩, .slice A 2 c] ∧ sliceRd (tySlice tyStr) (fun b => wa.heap.size ≤ b) wb (.slice A 2 c) [splitC (⟨#[55]⟩), splitC (⟨#[49]⟩)]) rfl rfl rfl Tryz.func31 (by kernel_rfl) rfl (fun w1 hw1 => (c_segment (es := [⟨#[55]⟩, ⟨#[49]⟩]) (D := fun _ => True) ⟨#[85, 78, 84]⟩ w1 (rowS_rd (e := 9) (r := some (p36, [Value.string (⟨#[55]⟩), Value.string (⟨#[49]⟩)], 2)) (n := 2) (rowOK_lit rfl (by decide)) rfl (fun s hs => ok_of (z36 s hs)) hw1 (fun q hq => by rw [List.mem_singleton.1 hq]; exact (by repeat (first | exact List.Mem.head _ | apply List.Mem.tail))) (fun _ _ => trivial)) (fun s hs => Nat.le_trans (z36 s hs) (by decide)) (by show 2 ≤ 1000; decide) (hL.later (hw1.base (by simp)))).mono fun e w2 ⟨u, h1, h2, h3⟩ => seg_out h1 h2 h3) ?_
    intro v37 wa37 wb37 hm37 hl37 hR37
    obtain ⟨A37, c37, rfl, hs37⟩ := hR37
    refine x_end ?_
    refine t_gr (Q := fun _ _ _ => False) ?_ t_nil
    refine x_buildSliceL (cs := ([[Value.string ⟨#[85, 78, 72]⟩, .slice A7 2 c7], [Value.string ⟨#[66, 71, 77]⟩, .slice A12 2 c12], [Value.string ⟨#[76, 73, 78]⟩, .slice A17 3 c17], [Value.string ⟨#[81, 84, 89]⟩, .slice A23 1 c23], [Value.string ⟨#[80, 82, 73]⟩, .slice A29 1 c29], [Value.string ⟨#[82, 70, 70]⟩, .slice A35 1 c35], [Value.string ⟨#[85, 78, 84]⟩, .slice A37 2 c37]] : List (List Value)).flatten) rfl rfl rfl Tryz.underlying29 sz49 zr49 rfl rfl rfl ?_
    intro p38
    refine x_end ?_
    refine t_flt (Q := fun _ _ _ => False) ?_
    refine x_val rfl rfl rfl (v_assign rfl) ?_
    refine x_end ?_
    refine t_done ?_
    refine x_end ?_
    refine t_norm ?_
    refine w_ret ?_
    refine ret1 rfl rfl (fun w' hm => ?_)
    rw [show orderR o = orderP o from by unfold orderR; rw [if_pos hw]]
    exact ⟨_, rfl, hm.base (by simp), RdAll.rd (e := 49) (css := [[Value.string ⟨#[85, 78, 72]⟩, .slice A7 2 c7], [Value.string ⟨#[66, 71, 77]⟩, .slice A12 2 c12], [Value.string ⟨#[76, 73, 78]⟩, .slice A17 3 c17], [Value.string ⟨#[81, 84, 89]⟩, .slice A23 1 c23], [Value.string ⟨#[80, 82, 73]⟩, .slice A29 1 c29], [Value.string ⟨#[82, 70, 70]⟩, .slice A35 1 c35], [Value.string ⟨#[85, 78, 84]⟩, .slice A37 2 c37]]) (xs := orderP o) (.cons (tySeg_mk (x := ⟨⟨#[85, 78, 72]⟩, [splitC (⟨#[49]⟩), splitC (⟨#[79, 82, 68, 69, 82, 83, 58, 68, 58, 57, 54, 65, 58, 85, 78]⟩)]⟩) rfl (show (3 : Nat) ≤ 9223372036854775807 by decide) (hs7.keep (Kept.made hm (by repeat (first | exact List.Mem.head _ | apply List.Mem.tail)) hm7 (hm7.base (by simp)).size))) (.cons (tySeg_mk (x := ⟨⟨#[66, 71, 77]⟩, [splitC (⟨#[50, 50, 48]⟩), splitC (itoaS o.id)]⟩) rfl (show (3 : Nat) ≤ 9223372036854775807 by decide) (hs12.keep (Kept.made hm (by repeat (first | exact List.Mem.head _ | apply List.Mem.tail)) hm12 (hm12.base (by simp)).size))) (.cons (tySeg_mk (x := ⟨⟨#[76, 73, 78]⟩, [splitC (⟨#[49]⟩), splitC (⟨#[]⟩), splitC (artS o.src o.num)]⟩) rfl (show (3 : Nat) ≤ 9223372036854775807 by decide) (hs17.keep (Kept.made hm (by repeat (first | exact List.Mem.head _ | apply List.Mem.tail)) hm17 (hm17.base (by simp)).size))) (.cons (tySeg_mk (x := ⟨⟨#[81, 84, 89]⟩, [splitC ((⟨#[50, 49, 58]⟩ : ByteArray) ++ itoaS o.copies)]⟩) rfl (show (3 : Nat) ≤ 9223372036854775807 by decide) (hs23.keep (Kept.made hm (by repeat (first | exact List.Mem.head _ | apply List.Mem.tail)) hm23 (hm23.base (by simp)).size))) (.cons (tySeg_mk (x := ⟨⟨#[80, 82, 73]⟩, [splitC ((⟨#[65, 65, 65, 58]⟩ : ByteArray) ++ itoaS o.price)]⟩) rfl (show (3 : Nat) ≤ 9223372036854775807 by decide) (hs29.keep (Kept.made hm (by repeat (first | exact List.Mem.head _ | apply List.Mem.tail)) hm29 (hm29.base (by simp)).size))) (.cons (tySeg_mk (x := ⟨⟨#[82, 70, 70]⟩, [splitC ((⟨#[66, 70, 78, 58]⟩ : ByteArray) ++ itoaS o.fund)]⟩) rfl (show (3 : Nat) ≤ 9223372036854775807 by decide) (hs35.keep (Kept.made hm (by repeat (first | exact List.Mem.head _ | apply List.Mem.tail)) hm35 (hm35.base (by simp)).size))) (.cons (tySeg_mk (x := ⟨⟨#[85, 78, 84]⟩, [splitC (⟨#[55]⟩), splitC (⟨#[49]⟩)]⟩) rfl (show (3 : Nat) ≤ 9223372036854775807 by decide) (hs37.keep (Kept.made hm (by repeat (first | exact List.Mem.head _ | apply List.Mem.tail)) hm37 (hm37.base (by simp)).size))) (.nil)))))))) hm (.head _) (by repeat (first | exact List.Mem.head _ | apply List.Mem.tail)) rfl (show (7 : Nat) ≤ maxLen by decide), fun h => absurd (show (7 : Nat) = 0 from h) (by decide)⟩

end Go.Proofs.YtbamklefagghcaaGreatDoor

namespace Go.Proofs.YtbamklefagghcaaGreatDoor
open Go.RowKit Go.PK
set_option linter.unusedVariables false
set_option linter.unusedSimpArgs false
set_option maxRecDepth 100000 in
theorem c_parses (s : ByteArray) (n k : Int) (w : World) (hs : s.size ≤ 200000000) :
    Calls Tryz.prog 29 #[.string s, .int .i64 n, .int .i64 k] w fun e w' => e = .returned (.bool (decide ((parR s).2.2 = k) && decide ((parR s).2.1 = n) && (decide ((parR s).2.2 = 0) || decide (((parR s).1.length : Int) = 0)))) ∧ Later w w' := by
  refine enter (vs := [.string s, .int .i64 n, .int .i64 k]) Tryz.func29 rfl Tryz.ntmps29 rfl ?_
  refine w_seq ?_
  refine rg_text ?_
  refine x_val rfl rfl rfl (v_assign rfl) ?_
  refine x_end ?_
  refine t_norm ?_
  refine w_seq ?_
  refine rg_text ?_
  refine x_val rfl rfl rfl (v_move rfl) ?_
  refine x_call (R := fun v wa wb => ∃ A c, v = .tuple #[.slice A (parR s).1.length c, .int .i64 (parR s).2.1, .int .i64 (parR s).2.2] ∧ sliceRd tySeg (fun b => wa.heap.size ≤ b) wb (.slice A (parR s).1.length c) (parR s).1) rfl rfl rfl Tryz.func23 (by kernel_rfl) rfl (fun w1 hw1 => (c_Parse s w1 hs).mono fun e w2 ⟨v, h1, h2, h3⟩ => by obtain ⟨A, c, rfl, _⟩ := id h3; exact ⟨_, h1, h2, A, c, rfl, h3⟩) ?_
  intro v12 wa12 wb12 hm12 hl12 hR12
  obtain ⟨A12, c12, rfl, hp12⟩ := hR12
  refine x_val rfl rfl rfl (v_move rfl) ?_
  refine x_val rfl rfl rfl (v_extract rfl rfl) ?_
  refine x_val rfl rfl rfl (v_extract rfl rfl) ?_
  refine x_val rfl rfl rfl (v_extract rfl rfl) ?_
  refine x_val rfl rfl rfl (v_assign rfl) ?_
  refine x_val rfl rfl rfl (v_assign rfl) ?_
  refine x_val rfl rfl rfl (v_assign rfl) ?_
  refine x_end ?_
  refine t_norm ?_
  refine w_seq ?_
  refine rg_text ?_
  refine x_val rfl rfl rfl (v_move rfl) ?_
  refine x_val rfl rfl rfl (v_move rfl) ?_
  refine x_bool rfl rfl rfl (v_eql rfl rfl) ?_
  intro b18 hb18
  refine x_val rfl rfl rfl (v_move rfl) ?_
  refine x_if [] rfl rfl rfl rfl rfl (fun hg => by obtain ⟨hg0, _⟩ := hg; subst hg0; (try simp only [List.cons_append, List.nil_append, gvl_nil, gvl_t, gvl_f]); exact v_move rfl) ?_
  refine x_if [] rfl rfl rfl rfl rfl (fun hg => by obtain ⟨hg0, _⟩ := hg; subst hg0; (try simp only [List.cons_append, List.nil_append, gvl_nil, gvl_t, gvl_f]); exact v_move rfl) ?_
  refine x_ifb [] rfl rfl rfl rfl rfl (fun hg => by obtain ⟨hg0, _⟩ := hg; subst hg0; (try simp only [List.cons_append, List.nil_append, gvl_nil, gvl_t, gvl_f]); exact v_eql rfl rfl) ?_
  intro b22 hb22
  refine x_bool rfl rfl rfl (v_and rfl rfl) ?_
  intro b23 hb23
  refine x_val rfl rfl rfl (v_move rfl) ?_
  refine x_if [] rfl rfl rfl rfl rfl (fun hg => by obtain ⟨hg0, _⟩ := hg; subst hg0; (try simp only [List.cons_append, List.nil_append, gvl_nil, gvl_t, gvl_f]); exact v_move rfl) ?_
  refine x_ifb [] rfl rfl rfl rfl rfl (fun hg => by obtain ⟨hg0, _⟩ := hg; subst hg0; (try simp only [List.cons_append, List.nil_append, gvl_nil, gvl_t, gvl_f]); exact v_eql rfl rfl) ?_
  intro b26 hb26
  refine x_if [] rfl rfl rfl rfl rfl (fun hg => by obtain ⟨hg0, _⟩ := hg; subst hg0; (try simp only [List.cons_append, List.nil_append, gvl_nil, gvl_t, gvl_f]); exact v_move rfl) ?_
  refine x_if [(b23, true)] rfl rfl rfl rfl rfl (fun hg => by obtain ⟨hg0, hg1, _⟩ := hg; subst hg0; subst hg1; (try simp only [List.cons_append, List.nil_append, gvl_nil, gvl_t, gvl_f]); exact v_move rfl) ?_
  refine x_if [(b23, true)] rfl rfl rfl rfl rfl (fun hg => by obtain ⟨hg0, hg1, _⟩ := hg; subst hg0; subst hg1; (try simp only [List.cons_append, List.nil_append, gvl_nil, gvl_t, gvl_f]); exact v_len_slice Tryz.underlying29 rfl) ?_
  refine x_ifb [(b23, true)] rfl rfl rfl rfl rfl (fun hg => by obtain ⟨hg0, hg1, _⟩ := hg; subst hg0; subst hg1; (try simp only [List.cons_append, List.nil_append, gvl_nil, gvl_t, gvl_f]); exact v_eql rfl rfl) ?_
  intro b30 hb30
  refine x_ifb [] rfl rfl rfl rfl rfl (fun hg => by obtain ⟨hg0, _⟩ := hg; subst hg0; (try simp only [List.cons_append, List.nil_append, gvl_nil, gvl_t, gvl_f]); exact v_or rfl rfl) ?_
  intro b31 hb31
  refine x_bool rfl rfl rfl (v_and rfl rfl) ?_
  intro b32 hb32
  refine x_val rfl rfl rfl (v_assign rfl) ?_
  refine x_end ?_
  refine t_norm ?_
  refine w_ret ?_
  refine ret1 rfl rfl (fun w' hm => ⟨?_, hm.base (by simp)⟩)
  rw [hb32, hb31, hb30, hb26, hb23, hb22, hb18]
set_option maxRecDepth 100000 in
theorem c_segments {u v z : Value} {tags texts : List ByteArray} {l : List (List UInt8)} {D1 D2 D3 : Nat → Prop} (w : World) (ht : sliceRd tyStr D1 w u tags) (hx : sliceRd tyStr D2 w v texts) (hl : sliceRd (tySlice tyB) D3 w z l) :
    Calls Tryz.prog 24 #[u, v, z] w fun e w' => ∃ q, e = .returned q ∧ Later w w' ∧ sliceRd tySeg (fun b => w.heap.size ≤ b) w' q (segsP tags texts l) := by
  obtain ⟨tA, tc, rfl, _, htm, _⟩ := id ht
  obtain ⟨xA, xc, rfl, _, hxm, _⟩ := id hx
  obtain ⟨lA, lc, rfl, _, hlm, _⟩ := id hl
  refine enter (vs := [.slice tA tags.length tc, .slice xA texts.length xc, .slice lA l.length lc]) Tryz.func24 rfl Tryz.ntmps24 rfl ?_
  refine w_seq ?_
  refine rg_text ?_
  refine x_val rfl rfl rfl (v_assign rfl) ?_
  refine x_end ?_
  refine t_norm ?_
  refine w_seq ?_
  refine rg_text ?_
  refine x_val rfl rfl rfl (v_assign rfl) ?_
  refine x_end ?_
  refine t_norm ?_
  refine w_seq ?_
  refine w_seq ?_
  refine rg_text ?_
  refine x_val rfl rfl rfl (v_assign rfl) ?_
  refine x_end ?_
  refine t_norm ?_
  refine w_block ?_
  refine w_fix (rowO 49 none) (List.Sublist.refl _) (fun w0 hm0 => ?_)
  refine w_loop (σ := Nat × RowS × World) (fun x => x.1 ≤ tags.length ∧ x.1 ≤ 10 ∧ RowT tySeg (newD w (rowO 49 x.2.1)) x.2.2 x.2.1 (segsK tags texts l x.1)) (fun x => [(0, Value.slice tA tags.length tc), (1, Value.slice xA texts.length xc), (2, Value.slice lA l.length lc), (7, rowV x.2.1 x.1), (8, Value.int .i64 (x.1 : Nat))]) (fun x => rowO 49 x.2.1) (fun x => (x.2.2, notOwn (rowO 49 x.2.1)) :: [(w, fun _ => True)]) (fun x => 10 - x.1) ((0, none, w0)) (⟨Nat.zero_le _, Nat.zero_le _, RowT.nil⟩) (l_start (by repeat (first | exact Sub.nil | refine Sub.cons rfl ?_)) (fun _ h => h)) ?_
  rintro ⟨k, R, ws⟩ ⟨hk, hk10, hT⟩
  refine w_state ([(0, Value.slice tA tags.length tc), (1, Value.slice xA texts.length xc), (2, Value.slice lA l.length lc), (7, rowV R k), (8, Value.int .i64 (k : Nat))]) (rowO 49 R) ((ws, notOwn (rowO 49 R)) :: [(w, fun _ => True)]) ?_
  dsimp only at hk hk10 hT
  obtain ⟨lb, lo, rA, rc, hlk⟩ := row_there hl k
  refine w_seq ?_
  refine w_seq ?_
  refine rg_text ?_
  refine x_val rfl rfl rfl (v_move rfl) ?_
  refine x_val rfl rfl rfl (v_move rfl) ?_
  refine x_val rfl rfl rfl (v_len_slice Tryz.underlying54 rfl) ?_
  refine x_bool rfl rfl rfl (v_lss rfl rfl) ?_
  intro b17 hb17
  refine x_val rfl rfl rfl (v_move rfl) ?_
  refine x_if [] rfl rfl rfl rfl rfl (fun hg => by obtain ⟨hg0, _⟩ := hg; subst hg0; (try simp only [List.cons_append, List.nil_append, gvl_nil, gvl_t, gvl_f]); exact v_move rfl) ?_
  refine x_ifb [] rfl rfl rfl rfl rfl (fun hg => by obtain ⟨hg0, _⟩ := hg; subst hg0; (try simp only [List.cons_append, List.nil_append, gvl_nil, gvl_t, gvl_f]); exact v_lss rfl rfl) ?_
  intro b20 hb20
  refine x_bool rfl rfl rfl (v_and rfl rfl) ?_
  intro b21 hb21
  refine x_end ?_
  refine t_norm ?_
  refine w_cond rfl (fun hc21 => ?_) (fun hc21 => ?_)
  · simp only [hb21, hb20, hb17, decide_eq_true_eq, decide_eq_false_iff_not, Bool.and_eq_true, Bool.or_eq_true, Bool.and_eq_false_iff, Bool.or_eq_false_iff, Bool.not_eq_true', Bool.not_eq_false', ne_eq, Decidable.not_not] at hc21
    have hk1 : k < tags.length := by omega
    have hk2 : k < 10 := by omega
    obtain ⟨tb, t0, htA, _, htc, htok⟩ := s_at ht hk1
    obtain ⟨tg, htg⟩ : ∃ t, tags[k] = t := ⟨_, rfl⟩
    rw [htg] at htc htok
    refine w_skip ?_
    refine t_norm ?_
    refine w_seq ?_
    refine w_block ?_
    refine w_seq ?_
    refine rg_text ?_
    refine x_val rfl rfl rfl (v_move rfl) ?_
    refine x_val rfl rfl rfl (v_move rfl) ?_
    refine x_val rfl rfl rfl (v_indexAddr Tryz.underlying54 sz9 (congrArg (fun A => some (Value.slice A tags.length tc)) htA) rfl (by first | omega | (dsimp only; omega)) rfl) ?_
    refine x_val rfl rfl rfl (v_load Tryz.underlying9 rfl rfl (at_ro (.tail _ (.head _)) trivial (by rw [Nat.mul_one]; exact htc))) ?_
    refine x_val rfl rfl rfl (v_buildL (places := [(0, 1), (1, 1)]) Tryz.underlying49 zr49 (by kernel_rfl) rfl rfl) ?_
    refine x_alloc rfl rfl rfl zr49 ?_
    intro p9
    refine x_store0 [] rfl rfl rfl rfl sz49 rfl rfl ?_
    refine x_end ?_
    refine t_norm ?_
    refine w_seq ?_
    refine w_seq ?_
    refine rg_text ?_
    refine x_val rfl rfl rfl (v_assign rfl) ?_
    refine x_end ?_
    refine t_norm ?_
    refine w_block ?_
    refine w_loop (σ := Nat × List (List ByteArray) × RowS × List RowS) (fun x => x.1 ≤ (l.getD k []).length ∧ x.1 ≤ 12 ∧ x.2.1 = elsAt texts (l.getD k []) x.1 ∧ SSOK x.2.2.1 x.2.2.2 x.2.1 ∧ x.2.1.length ≤ x.1 ∧ ∀ y ∈ x.2.1, y.length ≤ x.1 ∧ ∀ t ∈ y, okS t) (fun x => [(0, Value.slice tA tags.length tc), (1, Value.slice xA texts.length xc), (2, Value.slice lA l.length lc), (7, rowV R k), (8, Value.int .i64 (k : Nat)), (9, Value.pointer (some ⟨p9, 0, none⟩)), (10, Value.int .i64 (x.1 : Nat))]) (fun x => rowO 54 x.2.2.1 ++ (inO 9 x.2.2.2 ++ ((p9, Obj.cells [Value.string tg, rowV x.2.2.1 (x.2.1.length)].toArray 49) :: rowO 49 R))) (fun x => (ws, notOwn (rowO 49 R)) :: [(w, fun _ => True)]) (fun x => 12 - x.1) ((0, [], none, [])) (⟨Nat.zero_le _, Nat.zero_le _, rfl, SSOK.nil, Nat.zero_le _, fun y hy => by cases hy⟩) (l_start (by repeat (first | exact Sub.nil | refine Sub.cons rfl ?_)) (fun _ h => h)) ?_
    rintro ⟨j, xs, R2, S2⟩ ⟨hj, hj12, hxs, hS, hz1, hz2⟩
    refine w_state ([(0, Value.slice tA tags.length tc), (1, Value.slice xA texts.length xc), (2, Value.slice lA l.length lc), (7, rowV R k), (8, Value.int .i64 (k : Nat)), (9, Value.pointer (some ⟨p9, 0, none⟩)), (10, Value.int .i64 (j : Nat))]) (rowO 54 R2 ++ (inO 9 S2 ++ ((p9, Obj.cells [Value.string tg, rowV R2 (xs.length)].toArray 49) :: rowO 49 R))) ((ws, notOwn (rowO 49 R)) :: [(w, fun _ => True)]) ?_
    dsimp only at hj hj12 hxs hS hz1 hz2
    refine w_seq ?_
    refine w_seq ?_
    refine rg_text ?_
    refine x_val rfl rfl rfl (v_move rfl) ?_
    refine x_val rfl rfl rfl (v_move rfl) ?_
    refine x_val rfl rfl rfl (v_len_slice Tryz.underlying57 rfl) ?_
    refine x_bool rfl rfl rfl (v_lss rfl rfl) ?_
    intro b32 hb32
    refine x_val rfl rfl rfl (v_move rfl) ?_
    refine x_if [] rfl rfl rfl rfl rfl (fun hg => by obtain ⟨hg0, _⟩ := hg; subst hg0; (try simp only [List.cons_append, List.nil_append, gvl_nil, gvl_t, gvl_f]); exact v_move rfl) ?_
    refine x_if [] rfl rfl rfl rfl rfl (fun hg => by obtain ⟨hg0, _⟩ := hg; subst hg0; (try simp only [List.cons_append, List.nil_append, gvl_nil, gvl_t, gvl_f]); exact v_move rfl) ?_
    refine x_if [] rfl rfl rfl rfl rfl (fun hg => by obtain ⟨hg0, _⟩ := hg; subst hg0; (try simp only [List.cons_append, List.nil_append, gvl_nil, gvl_t, gvl_f]); exact v_move rfl) ?_
    refine x_if [] rfl rfl rfl rfl rfl (fun hg => by obtain ⟨hg0, _⟩ := hg; subst hg0; (try simp only [List.cons_append, List.nil_append, gvl_nil, gvl_t, gvl_f]); have h1 : k < l.length := (by have := of_decide_eq_true hb32.symm; omega); exact v_indexAddr Tryz.underlying57 sz56 (congrArg (fun A => some (Value.slice A l.length lc)) (hlk h1).1) rfl (h1) rfl) ?_
    refine x_if [] rfl rfl rfl rfl rfl (fun hg => by obtain ⟨hg0, _⟩ := hg; subst hg0; (try simp only [List.cons_append, List.nil_append, gvl_nil, gvl_t, gvl_f]); have h1 : k < l.length := (by have := of_decide_eq_true hb32.symm; omega); exact v_load Tryz.underlying56 rfl rfl (at_ro (.tail _ (.head _)) trivial (by rw [Nat.mul_one]; exact (hlk h1).2.2.1))) ?_
    refine x_if [] rfl rfl rfl rfl rfl (fun hg => by obtain ⟨hg0, _⟩ := hg; subst hg0; (try simp only [List.cons_append, List.nil_append, gvl_nil, gvl_t, gvl_f]); exact v_len_slice Tryz.underlying56 rfl) ?_
    refine x_ifb [] rfl rfl rfl rfl rfl (fun hg => by obtain ⟨hg0, _⟩ := hg; subst hg0; (try simp only [List.cons_append, List.nil_append, gvl_nil, gvl_t, gvl_f]); exact v_lss rfl rfl) ?_
    intro b40 hb40
    refine x_bool rfl rfl rfl (v_and rfl rfl) ?_
    intro b41 hb41
    refine x_val rfl rfl rfl (v_move rfl) ?_
    refine x_if [] rfl rfl rfl rfl rfl (fun hg => by obtain ⟨hg0, _⟩ := hg; subst hg0; (try simp only [List.cons_append, List.nil_append, gvl_nil, gvl_t, gvl_f]); exact v_move rfl) ?_
    refine x_ifb [] rfl rfl rfl rfl rfl (fun hg => by obtain ⟨hg0, _⟩ := hg; subst hg0; (try simp only [List.cons_append, List.nil_append, gvl_nil, gvl_t, gvl_f]); exact v_lss rfl rfl) ?_
    intro b44 hb44
    refine x_bool rfl rfl rfl (v_and rfl rfl) ?_
    intro b45 hb45
    refine x_end ?_
    refine t_norm ?_
    refine w_cond rfl (fun hc45 => ?_) (fun hc45 => ?_)
    · have hc3 : k < l.length ∧ j < (l.getD k []).length ∧ j < 12 := by
        rw [hb45, hb44, hb41, hb40, hb32] at hc45
        simp only [Bool.and_eq_true, decide_eq_true_eq] at hc45
        omega
      obtain ⟨hl1, hj1, hj2⟩ := hc3
      obtain ⟨hlA, _, hlc2, hrow⟩ := hlk hl1
      obtain ⟨b5, o5, hA5, _, hc5⟩ := b_at hrow hj1
      obtain ⟨cb, hcb⟩ : ∃ c, (l.getD k [])[j] = c := ⟨_, rfl⟩
      rw [hcb] at hc5
      have hlt8 := cb.toNat_lt
      have hstep : elsAt texts (l.getD k []) (j + 1) = stepEl texts xs cb := by rw [elsAt_succ hj1, hcb, hxs]
      refine w_skip ?_
      refine t_norm ?_
      refine w_seq ?_
      refine w_block ?_
      refine w_seq ?_
      refine rg_text ?_
      refine x_val rfl rfl rfl (v_move rfl) ?_
      refine x_val rfl rfl rfl (v_move rfl) ?_
      refine x_val rfl rfl rfl (v_indexAddr Tryz.underlying57 sz56 (congrArg (fun A => some (Value.slice A l.length lc)) hlA) rfl (by first | omega | (dsimp only; omega)) rfl) ?_
      refine x_val rfl rfl rfl (v_load Tryz.underlying56 rfl rfl (at_ro (.tail _ (.head _)) trivial (by rw [Nat.mul_one]; exact hlc2))) ?_
      refine x_val rfl rfl rfl (v_move rfl) ?_
      refine x_val rfl rfl rfl (v_indexAddr Tryz.underlying56 sz5 (congrArg (fun A => some (Value.slice A (l.getD k []).length rc)) hA5) rfl (by first | omega | (dsimp only; omega)) rfl) ?_
      refine x_val rfl rfl rfl (v_load Tryz.underlying5 rfl rfl (at_ro (.tail _ (.head _)) trivial (by rw [Nat.mul_one]; exact hc5))) ?_
      refine x_val (v := Value.int .i64 ((cb.toNat : Nat) : Int)) rfl rfl rfl (v_conv64 Tryz.underlying5 Tryz.underlying3 rfl (by omega)) ?_
      refine x_val rfl rfl rfl (v_assign rfl) ?_
      refine x_end ?_
      refine t_norm ?_
      refine w_seq ?_
      refine w_seq ?_
      refine rg_text ?_
      refine x_val rfl rfl rfl (v_move rfl) ?_
      refine x_val rfl rfl rfl (v_remN (a := cb.toNat) (b := 64) rfl rfl (by decide)) ?_
      refine x_bool rfl rfl rfl (v_eql rfl rfl) ?_
      intro b58 hb58
      refine x_end ?_
      refine t_norm ?_
      refine w_cond rfl (fun hc58 => ?_) (fun hc58 => ?_)
      · simp only [hb58, decide_eq_true_eq, decide_eq_false_iff_not, Bool.and_eq_true, Bool.or_eq_true, Bool.and_eq_false_iff, Bool.or_eq_false_iff, Bool.not_eq_true', Bool.not_eq_false', ne_eq, Decidable.not_not] at hc58
        have h63 : cb.toNat % 64 = 63 := by omega
        refine w_seq ?_
        refine rg_text ?_
        refine x_val rfl rfl rfl (v_fieldAddr (off' := 1) Tryz.underlying49 rfl sz47 (by decide) rfl rfl) ?_
        refine x_val rfl rfl rfl (v_load Tryz.underlying47 rfl rfl (at_ownL (vs := [Value.string tg, rowV R2 xs.length]) (List.mem_append_right _ (List.mem_append_right _ (.head _))) rfl)) ?_
        refine x_buildSliceL (cs := [Value.slice none 0 0]) rfl rfl rfl Tryz.underlying47 sz54 zr54 rfl rfl rfl ?_
        intro p61
        refine x_append (e := 54) [(p61, _)] (l2 := inO 9 S2 ++ ((p9, Obj.cells [Value.string tg, rowV R2 (xs.length)].toArray 49) :: rowO 49 R)) R2 (len := xs.length) (xs := ssC xs S2) rfl rfl rfl rfl rfl hS.row Tryz.underlying47 ap54 rfl rfl (m := 1) (news := [Value.slice none 0 0]) (fun i hi => at_ownL (vs := [Value.slice none 0 0]) (.head _) (by rw [Nat.zero_add]; exact List.getElem?_eq_getElem hi)) rfl (by simp only [maxLen]; omega) (by omega) ?_
        intro R' hR'
        refine x_val rfl rfl rfl (v_fieldAddr (off' := 1) Tryz.underlying49 rfl sz47 (by decide) rfl rfl) ?_
        refine x_store (cs := [Value.string tg, rowV R2 xs.length]) (off := 1) (e := 49) (l2 := rowO 49 R) ((p61, Obj.cells [Value.slice none 0 0].toArray 54) :: (rowO 54 R' ++ inO 9 S2)) rfl rfl rfl (by simp [List.append_assoc]) sz47 rfl (by show 2 ≤ 2; decide) ?_
        refine x_end ?_
        refine t_norm ?_
        refine w_exit ?_
        refine t_exit ?_
        refine b_hit ?_
        refine t_norm ?_
        refine rg_text ?_
        refine x_val rfl rfl rfl (v_move rfl) ?_
        refine x_val rfl rfl rfl (v_addi rfl rfl rfl (by first | omega | (dsimp only; omega))) ?_
        refine x_val rfl rfl rfl (v_assign rfl) ?_
        refine x_end ?_
        exact l_norm (j + 1, xs ++ [[]], R', S2 ++ [none]) ⟨by dsimp only; omega, by dsimp only; omega, by dsimp only; rw [hstep]; unfold stepEl; rw [if_pos h63], hS.snoc hR' rowOK_nil, by dsimp only; rw [List.length_append, List.length_singleton]; omega, fun y hy => by rcases List.mem_append.1 hy with h | h; (· have := hz2 y h; exact ⟨by dsimp only; omega, this.2⟩); rw [List.mem_singleton.1 h]; exact ⟨Nat.zero_le _, fun t ht => by cases ht⟩⟩ (by simp only; omega) (by repeat (first | exact Sub.nil | refine Sub.cons rfl ?_)) (fun w1 h => (h.less (List.sublist_cons_self _ _) (fun _ h => h)).to (by simp [inO_snoc, List.append_assoc, rowO] <;> rfl))
      · simp only [hb58, decide_eq_true_eq, decide_eq_false_iff_not, Bool.and_eq_true, Bool.or_eq_true, Bool.and_eq_false_iff, Bool.or_eq_false_iff, Bool.not_eq_true', Bool.not_eq_false', ne_eq, Decidable.not_not] at hc58
        have h63 : ¬cb.toNat % 64 = 63 := by omega
        refine w_skip ?_
        refine t_norm ?_
        refine w_seq_cut (σ := List (List ByteArray) × RowS × List RowS) (fun q => q.1 = (if xs.length = 0 ∨ cb.toNat % 4 = 0 then xs ++ [[]] else xs) ∧ q.1 ≠ [] ∧ SSOK q.2.1 q.2.2 q.1 ∧ q.1.length ≤ j + 1 ∧ ∀ y ∈ q.1, y.length ≤ j ∧ ∀ t ∈ y, okS t) (fun q => [(0, Value.slice tA tags.length tc), (1, Value.slice xA texts.length xc), (2, Value.slice lA l.length lc), (7, rowV R k), (8, Value.int .i64 (k : Nat)), (9, Value.pointer (some ⟨p9, 0, none⟩)), (10, Value.int .i64 (j : Nat)), (11, Value.int .i64 ((cb.toNat : Nat) : Int))]) (fun q => rowO 54 q.2.1 ++ (inO 9 q.2.2 ++ ((p9, Obj.cells [Value.string tg, rowV q.2.1 (q.1.length)].toArray 49) :: rowO 49 R))) (fun q => (ws, notOwn (rowO 49 R)) :: [(w, fun _ => True)]) ?_ ?_
        · refine w_seq ?_
          refine rg_text ?_
          refine x_val rfl rfl rfl (v_fieldAddr (off' := 1) Tryz.underlying49 rfl sz47 (by decide) rfl rfl) ?_
          refine x_val rfl rfl rfl (v_load Tryz.underlying47 rfl rfl (at_ownL (vs := [Value.string tg, rowV R2 xs.length]) (List.mem_append_right _ (List.mem_append_right _ (.head _))) rfl)) ?_
          refine x_val rfl rfl rfl (v_len_slice Tryz.underlying47 rfl) ?_
          refine x_bool rfl rfl rfl (v_eql rfl rfl) ?_
          intro b67 hb67
          refine x_val rfl rfl rfl (v_move rfl) ?_
          refine x_if [] rfl rfl rfl rfl rfl (fun hg => by obtain ⟨hg0, _⟩ := hg; subst hg0; (try simp only [List.cons_append, List.nil_append, gvl_nil, gvl_t, gvl_f]); exact v_move rfl) ?_
          refine x_if [] rfl rfl rfl rfl rfl (v := Value.int .i64 ((cb.toNat % 4 : Nat) : Int)) (fun hg => by obtain ⟨hg0, _⟩ := hg; subst hg0; (try simp only [List.cons_append, List.nil_append, gvl_nil, gvl_t, gvl_f]); exact v_remN (a := cb.toNat) (b := 4) rfl rfl (by decide)) ?_
          refine x_ifb [] rfl rfl rfl rfl rfl (fun hg => by obtain ⟨hg0, _⟩ := hg; subst hg0; (try simp only [List.cons_append, List.nil_append, gvl_nil, gvl_t, gvl_f]); exact v_eql rfl rfl) ?_
          intro b71 hb71
          refine x_bool rfl rfl rfl (v_or rfl rfl) ?_
          intro b72 hb72
          refine x_end ?_
          refine t_norm ?_
          refine w_cond rfl (fun hc72 => ?_) (fun hc72 => ?_)
          · simp only [hb72, hb71, hb67, decide_eq_true_eq, decide_eq_false_iff_not, Bool.and_eq_true, Bool.or_eq_true, Bool.and_eq_false_iff, Bool.or_eq_false_iff, Bool.not_eq_true', Bool.not_eq_false', ne_eq, Decidable.not_not] at hc72
            have hcn : xs.length = 0 ∨ cb.toNat % 4 = 0 := by omega
            refine rg_text ?_
            refine x_val rfl rfl rfl (v_fieldAddr (off' := 1) Tryz.underlying49 rfl sz47 (by decide) rfl rfl) ?_
            refine x_val rfl rfl rfl (v_load Tryz.underlying47 rfl rfl (at_ownL (vs := [Value.string tg, rowV R2 xs.length]) (List.mem_append_right _ (List.mem_append_right _ (.head _))) rfl)) ?_
            refine x_buildSliceL (cs := [Value.slice none 0 0]) rfl rfl rfl Tryz.underlying47 sz54 zr54 rfl rfl rfl ?_
            intro p75
            refine x_append (e := 54) [(p75, _)] (l2 := inO 9 S2 ++ ((p9, Obj.cells [Value.string tg, rowV R2 (xs.length)].toArray 49) :: rowO 49 R)) R2 (len := xs.length) (xs := ssC xs S2) rfl rfl rfl rfl rfl hS.row Tryz.underlying47 ap54 rfl rfl (m := 1) (news := [Value.slice none 0 0]) (fun i hi => at_ownL (vs := [Value.slice none 0 0]) (.head _) (by rw [Nat.zero_add]; exact List.getElem?_eq_getElem hi)) rfl (by simp only [maxLen]; omega) (by omega) ?_
            intro R' hR'
            refine x_val rfl rfl rfl (v_fieldAddr (off' := 1) Tryz.underlying49 rfl sz47 (by decide) rfl rfl) ?_
            refine x_store (cs := [Value.string tg, rowV R2 xs.length]) (off := 1) (e := 49) (l2 := rowO 49 R) ((p75, Obj.cells [Value.slice none 0 0].toArray 54) :: (rowO 54 R' ++ inO 9 S2)) rfl rfl rfl (by simp [List.append_assoc]) sz47 rfl (by show 2 ≤ 2; decide) ?_
            refine x_end ?_
            exact c_norm (xs ++ [[]], R', S2 ++ [none]) (⟨by rw [if_pos hcn], by simp, hS.snoc hR' rowOK_nil, by dsimp only; rw [List.length_append, List.length_singleton]; omega, fun y hy => by rcases List.mem_append.1 hy with h | h; (· exact hz2 y h); rw [List.mem_singleton.1 h]; exact ⟨Nat.zero_le _, fun t ht => by cases ht⟩⟩) (by repeat (first | exact Sub.nil | refine Sub.cons rfl ?_)) (fun w1 h => (h.less (List.sublist_cons_self _ _) (fun _ h => h)).to (by simp [inO_snoc, List.append_assoc, rowO] <;> rfl))
          · simp only [hb72, hb71, hb67, decide_eq_true_eq, decide_eq_false_iff_not, Bool.and_eq_true, Bool.or_eq_true, Bool.and_eq_false_iff, Bool.or_eq_false_iff, Bool.not_eq_true', Bool.not_eq_false', ne_eq, Decidable.not_not] at hc72
            have hcn : ¬(xs.length = 0 ∨ cb.toNat % 4 = 0) := by omega
            refine w_skip ?_
            exact c_norm (xs, R2, S2) (⟨by rw [if_neg hcn], fun h => hcn (.inl (by have h : xs = [] := h; rw [h]; rfl)), hS, by dsimp only; omega, hz2⟩) (by repeat (first | exact Sub.nil | refine Sub.cons rfl ?_)) (fun _ h => h)
        · rintro ⟨zs, R3, S3⟩ ⟨hzs, hzn, hS3, hy1, hy2⟩
          refine w_state ([(0, Value.slice tA tags.length tc), (1, Value.slice xA texts.length xc), (2, Value.slice lA l.length lc), (7, rowV R k), (8, Value.int .i64 (k : Nat)), (9, Value.pointer (some ⟨p9, 0, none⟩)), (10, Value.int .i64 (j : Nat)), (11, Value.int .i64 ((cb.toNat : Nat) : Int))]) (rowO 54 R3 ++ (inO 9 S3 ++ ((p9, Obj.cells [Value.string tg, rowV R3 (zs.length)].toArray 49) :: rowO 49 R))) ((ws, notOwn (rowO 49 R)) :: [(w, fun _ => True)]) ?_
          dsimp only at hzs hzn hS3 hy1 hy2
          refine w_seq ?_
          refine rg_text ?_
          refine x_val rfl rfl rfl (v_assign rfl) ?_
          refine x_end ?_
          refine t_norm ?_
          refine w_seq_cut (σ := Unit) (fun q => True) (fun q => [(0, Value.slice tA tags.length tc), (1, Value.slice xA texts.length xc), (2, Value.slice lA l.length lc), (7, rowV R k), (8, Value.int .i64 (k : Nat)), (9, Value.pointer (some ⟨p9, 0, none⟩)), (10, Value.int .i64 (j : Nat)), (11, Value.int .i64 ((cb.toNat : Nat) : Int)), (12, Value.string (textAt texts cb))]) (fun q => rowO 54 R3 ++ (inO 9 S3 ++ ((p9, Obj.cells [Value.string tg, rowV R3 (zs.length)].toArray 49) :: rowO 49 R))) (fun q => (ws, notOwn (rowO 49 R)) :: [(w, fun _ => True)]) ?_ ?_
          · refine w_seq ?_
            refine rg_text ?_
            refine x_val rfl rfl rfl (v_move rfl) ?_
            refine x_val rfl rfl rfl (v_len_slice Tryz.underlying54 rfl) ?_
            refine x_bool rfl rfl rfl (v_gtr rfl rfl) ?_
            intro b80 hb80
            refine x_end ?_
            refine t_norm ?_
            refine w_cond rfl (fun hc80 => ?_) (fun hc80 => ?_)
            · simp only [hb80, decide_eq_true_eq, decide_eq_false_iff_not, Bool.and_eq_true, Bool.or_eq_true, Bool.and_eq_false_iff, Bool.or_eq_false_iff, Bool.not_eq_true', Bool.not_eq_false', ne_eq, Decidable.not_not] at hc80
              have hxl : 0 < texts.length := by omega
              have hti : cb.toNat / 4 % texts.length < texts.length := Nat.mod_lt _ hxl
              obtain ⟨xb, xo, hxA, _, hxc, _⟩ := s_at hx hti
              refine rg_text ?_
              refine x_val rfl rfl rfl (v_move rfl) ?_
              refine x_val rfl rfl rfl (v_move rfl) ?_
              refine x_val rfl rfl rfl (v_quoN (a := cb.toNat) (b := 4) rfl rfl (by decide) (by omega)) ?_
              refine x_val rfl rfl rfl (v_move rfl) ?_
              refine x_val rfl rfl rfl (v_len_slice Tryz.underlying54 rfl) ?_
              refine x_val rfl rfl rfl (v_remN (a := cb.toNat / 4) (b := texts.length) rfl rfl (by omega)) ?_
              refine x_val rfl rfl rfl (v_indexAddr Tryz.underlying54 sz9 (congrArg (fun A => some (Value.slice A texts.length xc)) hxA) rfl (hti) rfl) ?_
              refine x_val rfl rfl rfl (v_load Tryz.underlying9 rfl rfl (at_ro (.tail _ (.head _)) trivial (by rw [Nat.mul_one]; exact hxc))) ?_
              refine x_val rfl rfl rfl (v_assign rfl) ?_
              refine x_end ?_
              exact c_norm () (trivial) (by unfold textAt; rw [getD_at hti]; repeat (first | exact Sub.nil | refine Sub.cons rfl ?_)) (fun _ h => h)
            · simp only [hb80, decide_eq_true_eq, decide_eq_false_iff_not, Bool.and_eq_true, Bool.or_eq_true, Bool.and_eq_false_iff, Bool.or_eq_false_iff, Bool.not_eq_true', Bool.not_eq_false', ne_eq, Decidable.not_not] at hc80
              have hxl : texts.length = 0 := by omega
              refine w_skip ?_
              exact c_norm () (trivial) (by unfold textAt; rw [getD_no (by omega)]; repeat (first | exact Sub.nil | refine Sub.cons rfl ?_)) (fun _ h => h)
          · rintro _ _
            obtain ⟨ys, y, Ts, S, bb, cs, cp, rfl, rfl, rfl⟩ := hS3.last hzn
            rw [inO_snoc, List.append_assoc]
            obtain ⟨hla, hlt⟩ := hS3.lastAt
            have hyl := hy2 y (by simp)
            have hzl : ys.length + 1 ≤ j + 1 := by simpa using hy1
            have htx : okS (textAt texts cb) := textAt_ok (all_ok hx) cb
            refine w_seq ?_
            refine rg_text ?_
            refine x_val rfl rfl rfl (v_fieldAddr Tryz.underlying49 rfl sz47 (by decide) rfl rfl) ?_
            refine x_val rfl rfl rfl (v_load Tryz.underlying47 rfl rfl (at_ownL (vs := [Value.string tg, rowV (some (bb, cs, cp)) (ys ++ [y]).length]) (List.mem_append_right _ (List.mem_append_right _ (List.mem_append_right _ (.head _)))) rfl)) ?_
            refine x_val rfl rfl rfl (v_len_slice Tryz.underlying47 rfl) ?_
            refine x_val rfl rfl rfl (v_subi (c := (ys.length : Int)) rfl rfl (by simp only [List.length_append, List.length_singleton]; omega) (by omega)) ?_
            refine x_val rfl rfl rfl (v_assign rfl) ?_
            refine x_end ?_
            refine t_norm ?_
            refine rg_inv ([(bb, Obj.cells cs.toArray 54), (p9, Obj.cells [Value.string tg, rowV (some (bb, cs, cp)) ((ys ++ [y]).length)].toArray 49)]) 12 (.flt 0 (.flt 1 (.flt 2 (.flt 3 (.flt 4 (.flt 5 (.flt 6 (.flt 7 (.flt 8 (.gr 9 (.gr 10 (.flt 11 .done) .nil) .nil)))))))))) (.cons_cons _ ((List.Sublist.cons_cons _ (List.nil_sublist _)).trans ((List.sublist_append_right _ _).trans (List.sublist_append_right _ _)))) (by kernel_rfl) (by kernel_rfl) ?_
            refine j_val rfl rfl (v_fieldAddr Tryz.underlying49 rfl sz47 (by decide) rfl rfl) ?_
            refine j_val rfl rfl (v_load Tryz.underlying47 rfl rfl (at_ownL (vs := [Value.string tg, rowV (some (bb, cs, cp)) (ys ++ [y]).length]) (.tail _ (.head _)) rfl)) ?_
            refine j_val rfl rfl (v_move rfl) ?_
            refine j_val rfl rfl (v_fieldAddr Tryz.underlying49 rfl sz47 (by decide) rfl rfl) ?_
            refine j_val rfl rfl (v_load Tryz.underlying47 rfl rfl (at_ownL (vs := [Value.string tg, rowV (some (bb, cs, cp)) (ys ++ [y]).length]) (.tail _ (.head _)) rfl)) ?_
            refine j_val rfl rfl (v_move rfl) ?_
            refine j_val rfl rfl (v_indexAddr Tryz.underlying47 sz54 rfl rfl (by simp only [List.length_append, List.length_singleton]; omega) rfl) ?_
            refine j_val rfl rfl (v_load Tryz.underlying54 rfl rfl (at_ownL (vs := cs) (.head _) (show cs[0 + ys.length * 1]? = some (rowV S y.length) from by rw [Nat.mul_one, Nat.zero_add]; exact hla))) ?_
            refine j_val rfl rfl (v_move rfl) ?_
            refine j_gr ?_ j_nil
            refine x_buildSliceL rfl rfl rfl Tryz.underlying54 sz9 zr9 rfl rfl rfl ?_
            intro p102
            refine x_end ?_
            refine j_end (.cons _ (.cons_cons _ ((List.Sublist.cons_cons _ (List.nil_sublist _)).trans ((List.sublist_append_right _ _).trans (List.sublist_append_right _ _))))) ?_
            refine j_gr ?_ j_nil
            refine x_append (e := 9) [(p102, _), (bb, .cells cs.toArray 54 (0, 0))] (l2 := inO 9 Ts ++ ((p9, Obj.cells [Value.string tg, rowV (some (bb, cs, cp)) ((ys ++ [y]).length)].toArray 49) :: rowO 49 R)) S (len := y.length) (xs := y.map Value.string) rfl rfl rfl rfl rfl hS3.lastOK Tryz.underlying54 ap9 rfl rfl (m := 1) (news := [Value.string (textAt texts cb)]) (fun i hi => at_ownL (vs := [Value.string (textAt texts cb)]) (.head _) (by rw [Nat.zero_add]; exact List.getElem?_eq_getElem hi)) rfl (by simp only [maxLen]; omega) (by omega) ?_
            intro S' hS'
            refine x_end ?_
            refine j_end (.cons _ (.cons_cons _ ((List.Sublist.cons_cons _ (List.nil_sublist _)).trans ((List.sublist_append_right _ _).trans (List.sublist_append_right _ _))))) ?_
            refine j_val rfl rfl (v_indexAddr Tryz.underlying47 sz54 rfl rfl (by simp only [List.length_append, List.length_singleton]; omega) rfl) ?_
            refine j_done ?_
            refine x_store (cs := cs) (off := 0 + ys.length * 1) [(p102, _)] rfl rfl rfl rfl sz54 rfl (by rw [Nat.mul_one, Nat.zero_add]; omega) ?_
            rw [show 0 + ys.length * 1 = ys.length by omega, put_cell hlt]
            refine x_end ?_
            refine b_norm ?_
            refine t_norm ?_
            refine rg_text ?_
            refine x_val rfl rfl rfl (v_move rfl) ?_
            refine x_val rfl rfl rfl (v_addi rfl rfl rfl (by first | omega | (dsimp only; omega))) ?_
            refine x_val rfl rfl rfl (v_assign rfl) ?_
            refine x_end ?_
            have hS4 : SSOK (some (bb, cs.set ys.length (rowV S' (y.length + 1)), cp)) (Ts ++ [S']) (ys ++ [y ++ [textAt texts cb]]) := by have h := hS3.setlast (S' := S') (y' := y ++ [textAt texts cb]) (by simpa using hS'); simpa using h
            refine l_norm (j + 1, ys ++ [y ++ [textAt texts cb]], some (bb, cs.set ys.length (rowV S' (y.length + 1)), cp), Ts ++ [S']) ⟨by dsimp only; omega, by dsimp only; omega, by dsimp only; rw [hstep]; unfold stepEl; rw [if_neg h63, ← hzs, addLast_snoc], hS4, by dsimp only; rw [List.length_append, List.length_singleton]; omega, fun y' hy' => ?_⟩ (by simp only; omega) (by repeat (first | exact Sub.nil | refine Sub.cons rfl ?_)) (fun w1 h => (h.less (List.sublist_cons_self _ _) (fun _ h => h)).to (by simp [inO_snoc, List.append_assoc, rowO, rowV, rowA, rowC] <;> rfl))
            rcases List.mem_append.1 hy' with h | h
            · obtain ⟨q1, q2⟩ := hy2 y' (List.mem_append_left _ h); exact ⟨by dsimp only; omega, q2⟩
            · rw [List.mem_singleton.1 h]; refine ⟨by dsimp only; rw [List.length_append, List.length_singleton]; omega, fun t ht => ?_⟩
              rcases List.mem_append.1 ht with ht | ht
              · exact hyl.2 t ht
              · rw [List.mem_singleton.1 ht]; exact htx
    · have hend : j = (l.getD k []).length ∨ j = 12 := by
        by_cases h1 : k < l.length
        · rw [hb45, hb44, hb41, hb40, hb32] at hc45
          simp only [Bool.and_eq_false_iff, decide_eq_false_iff_not] at hc45
          omega
        · have h2 : (l.getD k []).length = 0 := by rw [getD_no h1]; rfl
          omega
      have hxs2 : xs = elsAt texts (l.getD k []) 12 := by rw [hxs, els_all hend hj12]
      obtain ⟨css, hcl, hrw, hrd⟩ := hT
      rw [segsK_len] at hcl hrw
      refine w_exit ?_
      refine t_exit ?_
      refine t_exit ?_
      refine b_hit ?_
      refine t_norm ?_
      refine rg_text ?_
      refine x_val rfl rfl rfl (v_move rfl) ?_
      refine x_val rfl rfl rfl (v_load_blk (e := 49) (fz := (0, 0)) (cs := [Value.string tg, rowV R2 xs.length].toArray) Tryz.underlying49 rfl rfl (List.mem_append_right _ (List.mem_append_right _ (.head _))) sz49) ?_
      refine x_buildSliceL (cs := [Value.string tg, rowV R2 xs.length]) rfl rfl rfl Tryz.underlying29 sz49 zr49 rfl rfl rfl ?_
      intro p107
      refine x_append (e := 49) ((p107, Obj.cells [Value.string tg, rowV R2 xs.length].toArray 49) :: (rowO 54 R2 ++ (inO 9 S2 ++ [(p9, Obj.cells [Value.string tg, rowV R2 (xs.length)].toArray 49)]))) (l2 := []) R (len := k) (xs := css.flatten) rfl rfl rfl rfl (by simp [List.append_assoc]) hrw Tryz.underlying29 ap49 rfl rfl (m := 1) (news := [Value.string tg, rowV R2 xs.length]) (fun i hi => at_ownL (vs := [Value.string tg, rowV R2 xs.length]) (.head _) (by rw [Nat.zero_add]; exact List.getElem?_eq_getElem hi)) rfl (by simp only [maxLen]; omega) (by omega) ?_
      intro R' hR'
      refine x_val rfl rfl rfl (v_assign rfl) ?_
      refine x_end ?_
      refine b_norm ?_
      refine t_norm ?_
      refine rg_text ?_
      refine x_val rfl rfl rfl (v_move rfl) ?_
      refine x_val rfl rfl rfl (v_addi rfl rfl rfl (by first | omega | (dsimp only; omega))) ?_
      refine x_val rfl rfl rfl (v_assign rfl) ?_
      refine x_end ?_
      rw [List.append_nil]
      have hsub : (rowO 49 R').Sublist (((p107, Obj.cells [Value.string tg, rowV R2 xs.length].toArray 49) :: (rowO 54 R2 ++ (inO 9 S2 ++ [(p9, Obj.cells [Value.string tg, rowV R2 (xs.length)].toArray 49)]))) ++ rowO 49 R') := List.sublist_append_right _ _
      refine s_fix (rowO 49 R') hsub (fun w0 hm0 => ?_)
      have hnw : ∀ q, q ∈ ((p107, Obj.cells [Value.string tg, rowV R2 xs.length].toArray 49) :: (rowO 54 R2 ++ (inO 9 S2 ++ [(p9, Obj.cells [Value.string tg, rowV R2 (xs.length)].toArray 49)]))) → newD w (rowO 49 R') q.1 := fun q hq => ⟨hm0.newer (by simp) (List.mem_append_left _ hq), hm0.notIn (List.Sublist.refl _) hq⟩
      have hsl : sliceRd (tySlice tyStr) (newD w (rowO 49 R')) w0 (rowV R2 xs.length) xs := hS.rd (eR := 54) (eS := 9) rfl (fun q hq t ht => (hz2 q hq).2 t ht) hm0 (fun q hq => List.mem_append_left _ (List.mem_cons_of_mem _ (List.mem_append_left _ hq))) (fun q hq => List.mem_append_left _ (List.mem_cons_of_mem _ (List.mem_append_right _ (List.mem_append_left _ hq)))) (fun q hq => hnw q (List.mem_cons_of_mem _ (List.mem_append_left _ hq))) (fun q hq => hnw q (List.mem_cons_of_mem _ (List.mem_append_right _ (List.mem_append_left _ hq))))
      have hT' := snocN (T := tySeg) (D := newD w (rowO 49 R')) (ws := w0) (x := ⟨tg, xs⟩) (segsK_len tags texts l k) hcl (fun j h1 h2 => tySeg.keep (hrd j h1 h2) (Kept.frz hm0 hsub (by simp))) hR' (tySeg_mk rfl htok hsl)
      exact l_norm (x := (k, R, ws)) (μ := fun q : Nat × RowS × World => 10 - q.1) (k + 1, R', w0) ⟨by dsimp only; omega, by dsimp only; omega, by dsimp only; rw [segsK_succ]; unfold segAt; rw [getD_at hk1, htg, ← hxs2]; exact hT'⟩ (by simp only; omega) (by repeat (first | exact Sub.nil | refine Sub.cons rfl ?_)) (fun w1 h => h.less (List.Sublist.refl _) (fun q hq => by simp at hq ⊢; rcases hq with h | h; (· exact .inl h); simp [h]))
  · simp only [hb21, hb20, hb17, decide_eq_true_eq, decide_eq_false_iff_not, Bool.and_eq_true, Bool.or_eq_true, Bool.and_eq_false_iff, Bool.or_eq_false_iff, Bool.not_eq_true', Bool.not_eq_false', ne_eq, Decidable.not_not] at hc21
    have hke : k = min tags.length 10 := by
      rw [Nat.min_def]
      rcases hc21 with h | h <;> (split <;> omega)
    refine w_exit ?_
    refine t_exit ?_
    refine t_exit ?_
    refine b_hit ?_
    refine t_norm ?_
    refine w_seq ?_
    refine rg_text ?_
    refine x_val rfl rfl rfl (v_move rfl) ?_
    refine x_val rfl rfl rfl (v_assign rfl) ?_
    refine x_end ?_
    refine t_norm ?_
    refine w_ret ?_
    refine ret1 rfl rfl (fun w' hm => ⟨_, rfl, hm.base (by simp), ?_⟩)
    unfold segsP
    rw [← hke]
    exact (hT.keep (Kept.frz hm (List.Sublist.refl _) (.head _))).rd (e := 49) hm (fun q hq => hq) (fun _ h => h.1) (fun q hq => hm.newer (by simp) hq) (segsK_len _ _ _ _).symm

end Go.Proofs.YtbamklefagghcaaGreatDoor

namespace Go.Proofs.YtbamklefagghcaaGreatDoor
open Go.RowKit Go.PK
set_option linter.unusedVariables false
set_option linter.unusedSimpArgs false
theorem egO_ok : egO.ok := by unfold Ord.ok in64; decide
set_option maxHeartbeats 1000000 in
set_option maxRecDepth 100000 in
theorem c_sanity (w : World) (hL : LD w) :
    Calls Tryz.prog 9 #[] w fun e w' => e = .returned (.bool (true)) ∧ Later w w' := by
  refine enter (vs := []) Tryz.func9 rfl Tryz.ntmps9 rfl ?_
  refine w_seq ?_
  refine rg_text ?_
  refine x_val rfl rfl rfl (v_assign rfl) ?_
  refine x_end ?_
  refine t_norm ?_
  refine w_seq ?_
  refine rg_text ?_
  refine x_call (R := fun v wa wb => ∃ A c, v = .tuple #[.slice A (parR ⟨#[65, 66, 67, 43, 97, 58, 98, 43, 63, 43, 39]⟩).1.length c, .int .i64 (parR ⟨#[65, 66, 67, 43, 97, 58, 98, 43, 63, 43, 39]⟩).2.1, .int .i64 (parR ⟨#[65, 66, 67, 43, 97, 58, 98, 43, 63, 43, 39]⟩).2.2] ∧ sliceRd tySeg (fun b => wa.heap.size ≤ b) wb (.slice A (parR ⟨#[65, 66, 67, 43, 97, 58, 98, 43, 63, 43, 39]⟩).1.length c) (parR ⟨#[65, 66, 67, 43, 97, 58, 98, 43, 63, 43, 39]⟩).1) rfl rfl rfl Tryz.func23 (by kernel_rfl) rfl (fun w1 hw1 => (c_Parse ⟨#[65, 66, 67, 43, 97, 58, 98, 43, 63, 43, 39]⟩ w1 (by decide)).mono fun e w2 ⟨v, h1, h2, h3⟩ => by obtain ⟨A, c, rfl, _⟩ := id h3; exact ⟨_, h1, h2, A, c, rfl, h3⟩) ?_
  intro v13 wa13 wb13 hm13 hl13 hR13
  obtain ⟨A13, c13, rfl, hp13⟩ := hR13
  refine x_val rfl rfl rfl (v_move rfl) ?_
  refine x_val rfl rfl rfl (v_extract rfl rfl) ?_
  refine x_val rfl rfl rfl (v_extract rfl rfl) ?_
  refine x_val rfl rfl rfl (v_extract rfl rfl) ?_
  refine x_val rfl rfl rfl (v_assign rfl) ?_
  refine x_val rfl rfl rfl (v_assign rfl) ?_
  refine x_val rfl rfl rfl (v_assign rfl) ?_
  refine x_end ?_
  refine t_norm ?_
  refine w_seq ?_
  refine rg_text ?_
  refine x_call (R := fun v wa wb => ∃ A c, v = .tuple #[.slice A (parR ⟨#[85, 78, 65, 42, 35, 46, 33, 32, 126, 65, 66, 67, 35, 120, 33, 35, 42, 121, 126]⟩).1.length c, .int .i64 (parR ⟨#[85, 78, 65, 42, 35, 46, 33, 32, 126, 65, 66, 67, 35, 120, 33, 35, 42, 121, 126]⟩).2.1, .int .i64 (parR ⟨#[85, 78, 65, 42, 35, 46, 33, 32, 126, 65, 66, 67, 35, 120, 33, 35, 42, 121, 126]⟩).2.2] ∧ sliceRd tySeg (fun b => wa.heap.size ≤ b) wb (.slice A (parR ⟨#[85, 78, 65, 42, 35, 46, 33, 32, 126, 65, 66, 67, 35, 120, 33, 35, 42, 121, 126]⟩).1.length c) (parR ⟨#[85, 78, 65, 42, 35, 46, 33, 32, 126, 65, 66, 67, 35, 120, 33, 35, 42, 121, 126]⟩).1) rfl rfl rfl Tryz.func23 (by kernel_rfl) rfl (fun w1 hw1 => (c_Parse ⟨#[85, 78, 65, 42, 35, 46, 33, 32, 126, 65, 66, 67, 35, 120, 33, 35, 42, 121, 126]⟩ w1 (by decide)).mono fun e w2 ⟨v, h1, h2, h3⟩ => by obtain ⟨A, c, rfl, _⟩ := id h3; exact ⟨_, h1, h2, A, c, rfl, h3⟩) ?_
  intro v18 wa18 wb18 hm18 hl18 hR18
  obtain ⟨A18, c18, rfl, hp18⟩ := hR18
  refine x_val rfl rfl rfl (v_move rfl) ?_
  refine x_val rfl rfl rfl (v_extract rfl rfl) ?_
  refine x_val rfl rfl rfl (v_extract rfl rfl) ?_
  refine x_val rfl rfl rfl (v_extract rfl rfl) ?_
  refine x_val rfl rfl rfl (v_assign rfl) ?_
  refine x_val rfl rfl rfl (v_assign rfl) ?_
  refine x_val rfl rfl rfl (v_assign rfl) ?_
  refine x_end ?_
  refine t_norm ?_
  refine w_seq ?_
  refine rg_text ?_
  refine x_buildSliceL (cs := [Value.string ⟨#[105, 116, 39, 115]⟩]) rfl rfl rfl Tryz.underlying54 sz9 zr9 rfl rfl rfl ?_
  intro p23
  refine x_buildSliceL (cs := [.slice (some ⟨p23, 0, none⟩) 1 1]) rfl rfl rfl Tryz.underlying47 sz54 zr54 rfl rfl rfl ?_
  intro p24
  refine x_val rfl rfl rfl (v_buildL (places := [(0, 1), (1, 1)]) Tryz.underlying49 zr49 (by kernel_rfl) rfl rfl) ?_
  refine x_buildSliceL (cs := [Value.string ⟨#[65, 66, 67]⟩, .slice (some ⟨p24, 0, none⟩) 1 1]) rfl rfl rfl Tryz.underlying29 sz49 zr49 rfl rfl rfl ?_
  intro p26
  refine x_callv rfl rfl rfl Tryz.func22 (by kernel_rfl) rfl (fun w1 hw1 => c_Write (l := [egC]) w1 (lits_own (T := tySeg) (D := fun _ => True) (e := 49) (b := p26) [[Value.string ⟨#[65, 66, 67]⟩, .slice (some ⟨p24, 0, none⟩) 1 1]] (xs := [egC]) hw1 (by repeat (first | exact List.Mem.head _ | apply List.Mem.tail)) rfl (by decide) trivial ⟨tySeg_mk rfl (okS_small (by decide)) (lits_own (T := tySlice tyStr) (D := fun _ => True) (e := 54) (b := p24) [[Value.slice (some ⟨p23, 0, none⟩) 1 1]] (xs := [[⟨#[105, 116, 39, 115]⟩]]) hw1 (by repeat (first | exact List.Mem.head _ | apply List.Mem.tail)) rfl (by decide) trivial ⟨⟨_, rfl, (lits_own (T := tyStr) (D := fun _ => True) (e := 9) (b := p23) [[Value.string ⟨#[105, 116, 39, 115]⟩]] (xs := [⟨#[105, 116, 39, 115]⟩]) hw1 (by repeat (first | exact List.Mem.head _ | apply List.Mem.tail)) rfl (by decide) trivial ⟨⟨rfl, okS_small (by decide)⟩, trivial⟩)⟩, trivial⟩), trivial⟩) ex_wl) ?_
  refine x_val rfl rfl rfl (v_move rfl) ?_
  refine x_val rfl rfl rfl (v_extract rfl rfl) ?_
  refine x_val rfl rfl rfl (v_extract rfl rfl) ?_
  refine x_val rfl rfl rfl (v_assign rfl) ?_
  refine x_val rfl rfl rfl (v_assign rfl) ?_
  refine x_end ?_
  refine t_norm ?_
  refine w_seq ?_
  refine rg_text ?_
  refine x_val rfl rfl rfl (v_buildL (places := [(0, 1), (1, 1)]) Tryz.underlying23 zr23 (by kernel_rfl) rfl rfl) ?_
  refine x_val rfl rfl rfl (v_buildL (places := [(0, 1), (1, 1), (2, 2), (4, 1), (5, 1), (6, 1), (7, 1), (8, 1)]) Tryz.underlying25 zr25 (by kernel_rfl) rfl rfl) ?_
  refine x_alloc rfl rfl rfl zr25 ?_
  intro p9
  refine x_store0 [] rfl rfl rfl rfl sz25 rfl rfl ?_
  refine x_end ?_
  refine t_norm ?_
  refine w_seq ?_
  refine rg_text ?_
  refine x_val rfl rfl rfl (v_load_blk (e := 25) (fz := (0, 0)) (cs := egO.cells.toArray) Tryz.underlying25 rfl rfl (.head _) sz25) ?_
  refine x_call (R := fun v wa wb => sliceRd tySeg (fun b => wa.heap.size ≤ b) wb v (orderR egO)) rfl rfl rfl Tryz.func11 (by kernel_rfl) rfl (fun w1 hw1 => (c_Order egO w1 egO_ok (hL.later (hw1.base (by simp)))).mono fun e w2 ⟨v, h1, h2, h3, _⟩ => ⟨_, h1, h2, h3⟩) ?_
  intro v34 wa34 wb34 hm34 hl34 hR34
  refine x_callv rfl rfl rfl Tryz.func22 (by kernel_rfl) rfl (fun w1 hw1 => c_Write (l := orderR egO) w1 (keep_new hR34 hw1 (by repeat (first | exact List.Mem.head _ | apply List.Mem.tail)) hm34) ex_ol) ?_
  refine x_val rfl rfl rfl (v_move rfl) ?_
  refine x_val rfl rfl rfl (v_extract rfl rfl) ?_
  refine x_val rfl rfl rfl (v_extract rfl rfl) ?_
  refine x_val rfl rfl rfl (v_assign rfl) ?_
  refine x_val rfl rfl rfl (v_assign rfl) ?_
  refine x_end ?_
  refine t_norm ?_
  refine w_seq ?_
  refine rg_text ?_
  refine x_val rfl rfl rfl (v_move rfl) ?_
  refine x_buildSliceL (cs := [Value.string ⟨#[97]⟩, Value.string ⟨#[98]⟩]) rfl rfl rfl Tryz.underlying54 sz9 zr9 rfl rfl rfl ?_
  intro p39
  refine x_buildSliceL (cs := [Value.string ⟨#[43]⟩]) rfl rfl rfl Tryz.underlying54 sz9 zr9 rfl rfl rfl ?_
  intro p40
  refine x_buildSliceL (cs := [.slice (some ⟨p39, 0, none⟩) 2 2, .slice (some ⟨p40, 0, none⟩) 1 1]) rfl rfl rfl Tryz.underlying47 sz54 zr54 rfl rfl rfl ?_
  intro p41
  refine x_val rfl rfl rfl (v_buildL (places := [(0, 1), (1, 1)]) Tryz.underlying49 zr49 (by kernel_rfl) rfl rfl) ?_
  refine x_buildSliceL (cs := [Value.string ⟨#[65, 66, 67]⟩, .slice (some ⟨p41, 0, none⟩) 2 2]) rfl rfl rfl Tryz.underlying29 sz49 zr49 rfl rfl rfl ?_
  intro p43
  refine x_callb rfl rfl rfl Tryz.func12 (by kernel_rfl) rfl (fun w1 hw1 => c_Same (xs := (parR ⟨#[65, 66, 67, 43, 97, 58, 98, 43, 63, 43, 39]⟩).1) (ys := [egA]) w1 (keep_new hp13 hw1 (by repeat (first | exact List.Mem.head _ | apply List.Mem.tail)) hm13) (lits_own (T := tySeg) (D := fun _ => True) (e := 49) (b := p43) [[Value.string ⟨#[65, 66, 67]⟩, .slice (some ⟨p41, 0, none⟩) 2 2]] (xs := [egA]) hw1 (by repeat (first | exact List.Mem.head _ | apply List.Mem.tail)) rfl (by decide) trivial ⟨tySeg_mk rfl (okS_small (by decide)) (lits_own (T := tySlice tyStr) (D := fun _ => True) (e := 54) (b := p41) [[Value.slice (some ⟨p39, 0, none⟩) 2 2], [Value.slice (some ⟨p40, 0, none⟩) 1 1]] (xs := [[⟨#[97]⟩, ⟨#[98]⟩], [⟨#[43]⟩]]) hw1 (by repeat (first | exact List.Mem.head _ | apply List.Mem.tail)) rfl (by decide) trivial ⟨⟨_, rfl, (lits_own (T := tyStr) (D := fun _ => True) (e := 9) (b := p39) [[Value.string ⟨#[97]⟩], [Value.string ⟨#[98]⟩]] (xs := [⟨#[97]⟩, ⟨#[98]⟩]) hw1 (by repeat (first | exact List.Mem.head _ | apply List.Mem.tail)) rfl (by decide) trivial ⟨⟨rfl, okS_small (by decide)⟩, ⟨rfl, okS_small (by decide)⟩, trivial⟩)⟩, ⟨_, rfl, (lits_own (T := tyStr) (D := fun _ => True) (e := 9) (b := p40) [[Value.string ⟨#[43]⟩]] (xs := [⟨#[43]⟩]) hw1 (by repeat (first | exact List.Mem.head _ | apply List.Mem.tail)) rfl (by decide) trivial ⟨⟨rfl, okS_small (by decide)⟩, trivial⟩)⟩, trivial⟩), trivial⟩)) ?_
  intro b44 hb44
  obtain rfl : b44 = true := hb44.trans (decide_eq_true (by rw [ex_a]))
  refine x_val rfl rfl rfl (v_move rfl) ?_
  refine x_if [] rfl rfl rfl rfl rfl (fun hg => by obtain ⟨hg0, _⟩ := hg; (try simp only [List.cons_append, List.nil_append, gvl_nil, gvl_t, gvl_f]); exact v_move rfl) ?_
  refine x_buildSlice_g (cs := [Value.string ⟨#[120, 35]⟩, Value.string ⟨#[121]⟩]) rfl rfl rfl rfl rfl Tryz.underlying54 sz9 zr9 rfl rfl rfl ?_
  intro p47
  refine x_buildSlice_g (cs := [.slice (some ⟨p47, 0, none⟩) 2 2]) rfl rfl rfl rfl rfl Tryz.underlying47 sz54 zr54 rfl rfl rfl ?_
  intro p48
  refine x_if [] rfl rfl rfl rfl rfl (fun hg => by obtain ⟨hg0, _⟩ := hg; (try simp only [List.cons_append, List.nil_append, gvl_nil, gvl_t, gvl_f]); exact v_buildL (places := [(0, 1), (1, 1)]) Tryz.underlying49 zr49 (by kernel_rfl) rfl rfl) ?_
  refine x_buildSlice_g (cs := [Value.string ⟨#[65, 66, 67]⟩, .slice (some ⟨p48, 0, none⟩) 1 1]) rfl rfl rfl rfl rfl Tryz.underlying29 sz49 zr49 rfl rfl rfl ?_
  intro p50
  refine x_call_ifb [] rfl rfl rfl rfl rfl Tryz.func12 (by kernel_rfl) (fun hg => by obtain ⟨hg0, _⟩ := hg; (try simp only [List.cons_append, List.nil_append, gvl_nil, gvl_t, gvl_f]); refine ⟨_, rfl, ?_⟩; exact fun w1 hw1 => c_Same (xs := (parR ⟨#[85, 78, 65, 42, 35, 46, 33, 32, 126, 65, 66, 67, 35, 120, 33, 35, 42, 121, 126]⟩).1) (ys := [egB]) w1 (keep_new hp18 hw1 (by repeat (first | exact List.Mem.head _ | apply List.Mem.tail)) hm18) (lits_own (T := tySeg) (D := fun _ => True) (e := 49) (b := p50) [[Value.string ⟨#[65, 66, 67]⟩, .slice (some ⟨p48, 0, none⟩) 1 1]] (xs := [egB]) hw1 (by repeat (first | exact List.Mem.head _ | apply List.Mem.tail)) rfl (by decide) trivial ⟨tySeg_mk rfl (okS_small (by decide)) (lits_own (T := tySlice tyStr) (D := fun _ => True) (e := 54) (b := p48) [[Value.slice (some ⟨p47, 0, none⟩) 2 2]] (xs := [[⟨#[120, 35]⟩, ⟨#[121]⟩]]) hw1 (by repeat (first | exact List.Mem.head _ | apply List.Mem.tail)) rfl (by decide) trivial ⟨⟨_, rfl, (lits_own (T := tyStr) (D := fun _ => True) (e := 9) (b := p47) [[Value.string ⟨#[120, 35]⟩], [Value.string ⟨#[121]⟩]] (xs := [⟨#[120, 35]⟩, ⟨#[121]⟩]) hw1 (by repeat (first | exact List.Mem.head _ | apply List.Mem.tail)) rfl (by decide) trivial ⟨⟨rfl, okS_small (by decide)⟩, ⟨rfl, okS_small (by decide)⟩, trivial⟩)⟩, trivial⟩), trivial⟩)) ?_
  intro b51 hb51
  obtain rfl : b51 = true := hb51.trans (decide_eq_true (by rw [ex_b]))
  refine x_bool rfl rfl rfl (v_and rfl rfl) ?_
  intro b52 hb52
  obtain rfl : b52 = true := hb52
  refine x_val rfl rfl rfl (v_move rfl) ?_
  refine x_call_ifb [] rfl rfl rfl rfl rfl Tryz.func29 (by kernel_rfl) (fun hg => by obtain ⟨hg0, _⟩ := hg; (try simp only [List.cons_append, List.nil_append, gvl_nil, gvl_t, gvl_f]); refine ⟨_, rfl, ?_⟩; exact fun w1 hw1 => c_parses _ _ _ w1 (by decide)) ?_
  intro b54 hb54
  obtain rfl : b54 = true := hb54.trans (by rw [ex_c]; rfl)
  refine x_bool rfl rfl rfl (v_and rfl rfl) ?_
  intro b55 hb55
  obtain rfl : b55 = true := hb55
  refine x_val rfl rfl rfl (v_move rfl) ?_
  refine x_call_ifb [] rfl rfl rfl rfl rfl Tryz.func29 (by kernel_rfl) (fun hg => by obtain ⟨hg0, _⟩ := hg; (try simp only [List.cons_append, List.nil_append, gvl_nil, gvl_t, gvl_f]); refine ⟨_, rfl, ?_⟩; exact fun w1 hw1 => c_parses _ _ _ w1 (by decide)) ?_
  intro b57 hb57
  obtain rfl : b57 = true := hb57.trans (by rw [ex_d]; rfl)
  refine x_bool rfl rfl rfl (v_and rfl rfl) ?_
  intro b58 hb58
  obtain rfl : b58 = true := hb58
  refine x_val rfl rfl rfl (v_move rfl) ?_
  refine x_call_ifb [] rfl rfl rfl rfl rfl Tryz.func29 (by kernel_rfl) (fun hg => by obtain ⟨hg0, _⟩ := hg; (try simp only [List.cons_append, List.nil_append, gvl_nil, gvl_t, gvl_f]); refine ⟨_, rfl, ?_⟩; exact fun w1 hw1 => c_parses _ _ _ w1 (by decide)) ?_
  intro b60 hb60
  obtain rfl : b60 = true := hb60.trans (by rw [ex_e]; rfl)
  refine x_bool rfl rfl rfl (v_and rfl rfl) ?_
  intro b61 hb61
  obtain rfl : b61 = true := hb61
  refine x_val rfl rfl rfl (v_move rfl) ?_
  refine x_if [] rfl rfl rfl rfl rfl (fun hg => by obtain ⟨hg0, _⟩ := hg; (try simp only [List.cons_append, List.nil_append, gvl_nil, gvl_t, gvl_f]); exact v_move rfl) ?_
  refine x_ifb [] rfl rfl rfl rfl rfl (fun hg => by obtain ⟨hg0, _⟩ := hg; (try simp only [List.cons_append, List.nil_append, gvl_nil, gvl_t, gvl_f]); exact v_seql rfl rfl) ?_
  intro b64 hb64
  obtain rfl : b64 = true := hb64.trans (decide_eq_true (by rw [ex_w]))
  refine x_bool rfl rfl rfl (v_and rfl rfl) ?_
  intro b65 hb65
  obtain rfl : b65 = true := hb65
  refine x_val rfl rfl rfl (v_move rfl) ?_
  refine x_if [] rfl rfl rfl rfl rfl (fun hg => by obtain ⟨hg0, _⟩ := hg; (try simp only [List.cons_append, List.nil_append, gvl_nil, gvl_t, gvl_f]); exact v_move rfl) ?_
  refine x_ifb [] rfl rfl rfl rfl rfl (fun hg => by obtain ⟨hg0, _⟩ := hg; (try simp only [List.cons_append, List.nil_append, gvl_nil, gvl_t, gvl_f]); exact v_eql rfl rfl) ?_
  intro b68 hb68
  obtain rfl : b68 = true := hb68.trans (decide_eq_true (by rw [ex_w]))
  refine x_bool rfl rfl rfl (v_and rfl rfl) ?_
  intro b69 hb69
  obtain rfl : b69 = true := hb69
  refine x_val rfl rfl rfl (v_move rfl) ?_
  refine x_if [] rfl rfl rfl rfl rfl (fun hg => by obtain ⟨hg0, _⟩ := hg; (try simp only [List.cons_append, List.nil_append, gvl_nil, gvl_t, gvl_f]); exact v_move rfl) ?_
  refine x_ifb [] rfl rfl rfl rfl rfl (fun hg => by obtain ⟨hg0, _⟩ := hg; (try simp only [List.cons_append, List.nil_append, gvl_nil, gvl_t, gvl_f]); exact v_seql rfl rfl) ?_
  intro b72 hb72
  obtain rfl : b72 = true := hb72.trans (decide_eq_true (by rw [ex_o]; rfl))
  refine x_bool rfl rfl rfl (v_and rfl rfl) ?_
  intro b73 hb73
  obtain rfl : b73 = true := hb73
  refine x_val rfl rfl rfl (v_assign rfl) ?_
  refine x_end ?_
  refine t_norm ?_
  refine w_ret ?_
  refine ret1 rfl rfl (fun w' hm => ⟨?_, hm.base (by simp)⟩)
  rfl

end Go.Proofs.YtbamklefagghcaaGreatDoor

namespace Go.Proofs.YtbamklefagghcaaGreatDoor
open Go.RowKit Go.PK
set_option linter.unusedVariables false
set_option linter.unusedSimpArgs false

theorem tmodN {n m : Int} (h : 0 < m) : (n.tmod m + m).tmod m = n % m := tmod_mod n m h
set_option maxRecDepth 100000 in
theorem c_Mod (n m : Int) (w : World) (hn : in64 n) (hmm : 0 < m ∧ m ≤ 4000000000) :
    Calls Tryz.prog 10 #[.int .i64 n, .int .i64 m] w fun e w' => e = .returned (.int .i64 (n % m)) ∧ Later w w' := by
  refine enter (vs := [.int .i64 n, .int .i64 m]) Tryz.func10 rfl Tryz.ntmps10 rfl ?_
  refine w_seq ?_
  refine rg_text ?_
  refine x_val rfl rfl rfl (v_assign rfl) ?_
  refine x_end ?_
  refine t_norm ?_
  refine w_seq ?_
  refine rg_text ?_
  refine x_val rfl rfl rfl (v_move rfl) ?_
  refine x_val rfl rfl rfl (v_move rfl) ?_
  refine x_val rfl rfl rfl (v_rem rfl rfl (by omega)) ?_
  refine x_val rfl rfl rfl (v_move rfl) ?_
  refine x_val rfl rfl rfl (v_addi (c := n.tmod m + m) rfl rfl rfl (by have := tmod_bd n m hmm.1; omega)) ?_
  refine x_val rfl rfl rfl (v_move rfl) ?_
  refine x_val rfl rfl rfl (v_rem rfl rfl (by omega)) ?_
  refine x_val rfl rfl rfl (v_assign rfl) ?_
  refine x_end ?_
  refine t_norm ?_
  refine w_ret ?_
  refine ret1 rfl rfl (fun w' hm => ⟨?_, hm.base (by simp)⟩)
  rw [tmodN hmm.1]
set_option maxRecDepth 100000 in
theorem c_DecN (u0 : Nat) (w : World) (hu : u0 ≤ 9223372036854775807) :
    Calls Tryz.prog 21 #[.int .i64 (u0 : Nat)] w fun e w' => e = .returned (.string (itoaS (u0 : Nat))) ∧ Later w w' := by
  refine enter (vs := [.int .i64 (u0 : Nat)]) Tryz.func21 rfl Tryz.ntmps21 rfl ?_
  refine w_seq ?_
  refine rg_text ?_
  refine x_val rfl rfl rfl (v_assign rfl) ?_
  refine x_end ?_
  refine t_norm ?_
  refine w_seq ?_
  refine rg_text ?_
  refine x_val rfl rfl rfl (v_assign rfl) ?_
  refine x_end ?_
  refine t_norm ?_
  refine w_seq ?_
  refine w_block ?_
  refine w_loop (σ := Nat × List UInt8) (fun x => Lib.decDigits x.1 ++ x.2 = Lib.decDigits u0 ∧ x.2.length ≤ 20 ∧ x.1 ≤ 9223372036854775807) (fun x => [(0, Value.int .i64 (x.1 : Nat)), (3, Value.string ⟨x.2.toArray⟩)]) (fun x => []) (fun x => [(w, fun _ => True)]) (fun x => x.1) ((u0, [])) (⟨List.append_nil _, Nat.zero_le _, hu⟩) (l_start (by repeat (first | exact Sub.nil | refine Sub.cons rfl ?_)) (fun _ h => h)) ?_
  rintro ⟨u, s⟩ ⟨hd, hl, hu1⟩
  refine w_state ([(0, Value.int .i64 (u : Nat)), (3, Value.string ⟨s.toArray⟩)]) ([]) ([(w, fun _ => True)]) ?_
  dsimp only at hd hl hu1
  have e10 : (10 : Nat) ^ (18 + 1) = 10000000000000000000 := by decide
  have hlen : (Lib.decDigits u).length + s.length ≤ 19 := by rw [← List.length_append, hd]; exact (dec_len 18 u0).2 (by omega)
  refine w_seq ?_
  refine w_seq ?_
  refine rg_text ?_
  refine x_val rfl rfl rfl (v_move rfl) ?_
  refine x_bool rfl rfl rfl (v_gtr rfl rfl) ?_
  intro b5 hb5
  refine x_end ?_
  refine t_norm ?_
  refine w_cond rfl (fun hc5 => ?_) (fun hc5 => ?_)
  · simp only [hb5, decide_eq_true_eq, decide_eq_false_iff_not, Bool.and_eq_true, Bool.or_eq_true, Bool.and_eq_false_iff, Bool.or_eq_false_iff, Bool.not_eq_true', Bool.not_eq_false', ne_eq, Decidable.not_not] at hc5
    have hb : ¬u < 10 := by omega
    have hdb := dec_big hb
    rw [hdb] at hd hlen
    simp only [List.length_append, List.length_singleton] at hlen
    refine w_skip ?_
    refine t_norm ?_
    refine w_block ?_
    refine w_seq ?_
    refine rg_text ?_
    refine x_val rfl rfl rfl (v_move rfl) ?_
    refine x_val rfl rfl rfl (v_remN (a := u) (b := 10) rfl rfl (by decide)) ?_
    refine x_val rfl rfl rfl (v_addi (c := ((48 + u % 10 : Nat) : Int)) rfl rfl (by omega) (by omega)) ?_
    refine x_val rfl rfl rfl (v_convU8 (c := 48 + u % 10) Tryz.underlying3 Tryz.underlying5 rfl (by omega)) ?_
    refine x_buildSliceL (cs := byC [UInt8.ofNat (48 + u % 10)]) rfl rfl rfl Tryz.underlying56 sz5 zr5 rfl rfl rfl ?_
    intro p10
    refine x_val rfl rfl rfl (v_toStr (e := 5) [UInt8.ofNat (48 + u % 10)] (Tryz.underlying56) Tryz.underlying5 Tryz.underlying9 rfl rfl (fun j hj => at_ownL (vs := byC [UInt8.ofNat (48 + u % 10)]) (.head _) (by rw [Nat.zero_add]; exact byC_at hj))) ?_
    refine x_val rfl rfl rfl (v_move rfl) ?_
    refine x_val rfl rfl rfl (v_saddL (a := [UInt8.ofNat (48 + u % 10)]) (b := s) rfl rfl (by simp only [List.length_singleton]; omega)) ?_
    refine x_val rfl rfl rfl (v_assign rfl) ?_
    refine x_end ?_
    refine t_norm ?_
    refine rg_text ?_
    refine x_val rfl rfl rfl (v_move rfl) ?_
    refine x_val rfl rfl rfl (v_quoN (a := u) (b := 10) rfl rfl (by decide) (by omega)) ?_
    refine x_val rfl rfl rfl (v_assign rfl) ?_
    refine x_end ?_
    refine b_norm ?_
    exact l_norm (u / 10, [UInt8.ofNat (48 + u % 10)] ++ s) ⟨by dsimp only; rw [← List.append_assoc]; exact hd, by simp only [List.length_append, List.length_singleton]; omega, by dsimp only; omega⟩ (by simp only; omega) (by repeat (first | exact Sub.nil | refine Sub.cons rfl ?_)) (fun w1 h => h.less (List.nil_sublist _) (fun _ h => h))
  · simp only [hb5, decide_eq_true_eq, decide_eq_false_iff_not, Bool.and_eq_true, Bool.or_eq_true, Bool.and_eq_false_iff, Bool.or_eq_false_iff, Bool.not_eq_true', Bool.not_eq_false', ne_eq, Decidable.not_not] at hc5
    have hs : u < 10 := by omega
    rw [dec_small hs] at hd
    refine w_exit ?_
    refine t_exit ?_
    refine t_exit ?_
    refine b_hit ?_
    refine t_norm ?_
    refine w_seq ?_
    refine rg_text ?_
    refine x_val rfl rfl rfl (v_move rfl) ?_
    refine x_val rfl rfl rfl (v_addi (c := ((48 + u : Nat) : Int)) rfl rfl (by omega) (by omega)) ?_
    refine x_val rfl rfl rfl (v_convU8 (c := 48 + u) Tryz.underlying3 Tryz.underlying5 rfl (by omega)) ?_
    refine x_buildSliceL (cs := byC [UInt8.ofNat (48 + u)]) rfl rfl rfl Tryz.underlying56 sz5 zr5 rfl rfl rfl ?_
    intro p19
    refine x_val rfl rfl rfl (v_toStr (e := 5) [UInt8.ofNat (48 + u)] (Tryz.underlying56) Tryz.underlying5 Tryz.underlying9 rfl rfl (fun j hj => at_ownL (vs := byC [UInt8.ofNat (48 + u)]) (.head _) (by rw [Nat.zero_add]; exact byC_at hj))) ?_
    refine x_val rfl rfl rfl (v_move rfl) ?_
    refine x_val rfl rfl rfl (v_saddL (a := [UInt8.ofNat (48 + u)]) (b := s) rfl rfl (by simp only [List.length_singleton]; omega)) ?_
    refine x_val rfl rfl rfl (v_assign rfl) ?_
    refine x_end ?_
    refine t_norm ?_
    refine w_ret ?_
    refine ret1 rfl rfl (fun w' hm => ⟨?_, hm.base (by simp)⟩)
    rw [hd, itoaS_nat]
theorem c_Dec (n : Int) (w : World) (h0 : 0 ≤ n) (hn : in64 n) : Calls Tryz.prog 21 #[.int .i64 n] w fun e w' => e = .returned (.string (itoaS n)) ∧ Later w w' := by
  obtain ⟨u, rfl⟩ := Int.eq_ofNat_of_zero_le h0
  exact c_DecN u w (by unfold in64 at hn; omega)
theorem head_byte {s : ByteArray} (h : 0 < s.size) : (bl s).head? = some (byteAt s 0) := by
  rw [List.head?_eq_getElem?, List.getElem?_eq_getElem (by rw [bl_len]; exact h), bl_get]
theorem numF_lt (l : List UInt8) (hd : ∀ c ∈ l, digB8 c = true) : numF l 0 < 10 ^ l.length := by
  have key : ∀ (l : List UInt8) (k a : Nat), (∀ c ∈ l, digB8 c = true) → a < 10 ^ k → numF l a < 10 ^ (k + l.length) := by
    intro l
    induction l with
    | nil => intro k a _ ha; exact ha
    | cons x l ih =>
      intro k a hd ha
      have hx := of_decide_eq_true (hd x (List.mem_cons_self ..))
      have e : 10 ^ (k + 1) = 10 * 10 ^ k := by rw [Nat.pow_succ, Nat.mul_comm]
      have := ih (k + 1) (10 * a + (x.toNat - 48)) (fun y hy => hd y (List.mem_cons_of_mem _ hy)) (by omega)
      rw [List.length_cons, show k + (l.length + 1) = k + 1 + l.length by omega]
      exact this
  simpa using key l 0 0 hd (by decide)
set_option maxRecDepth 100000 in
theorem c_value (s : ByteArray) (most : Nat) (w : World) (hmo : most ≤ 18) :
    Calls Tryz.prog 59 #[.string s, .int .i64 (most : Nat)] w fun e w' => e = .returned (.tuple #[.int .i64 (valP s most).1, .bool (valP s most).2]) ∧ Later w w' := by
  refine enter (vs := [.string s, .int .i64 (most : Nat)]) Tryz.func59 rfl Tryz.ntmps59 rfl ?_
  refine w_seq ?_
  refine rg_text ?_
  refine x_val rfl rfl rfl (v_assign rfl) ?_
  refine x_val rfl rfl rfl (v_assign rfl) ?_
  refine x_end ?_
  refine t_norm ?_
  refine w_seq ?_
  refine w_seq ?_
  refine rg_text ?_
  refine x_val rfl rfl rfl (v_move rfl) ?_
  refine x_val rfl rfl rfl (v_len_str Tryz.underlying9 rfl) ?_
  refine x_bool rfl rfl rfl (v_eql rfl rfl) ?_
  intro b10 hb10
  refine x_val rfl rfl rfl (v_move rfl) ?_
  refine x_if [] rfl rfl rfl rfl rfl (fun hg => by obtain ⟨hg0, _⟩ := hg; subst hg0; (try simp only [List.cons_append, List.nil_append, gvl_nil, gvl_t, gvl_f]); exact v_move rfl) ?_
  refine x_if [] rfl rfl rfl rfl rfl (fun hg => by obtain ⟨hg0, _⟩ := hg; subst hg0; (try simp only [List.cons_append, List.nil_append, gvl_nil, gvl_t, gvl_f]); exact v_len_str Tryz.underlying9 rfl) ?_
  refine x_if [] rfl rfl rfl rfl rfl (fun hg => by obtain ⟨hg0, _⟩ := hg; subst hg0; (try simp only [List.cons_append, List.nil_append, gvl_nil, gvl_t, gvl_f]); exact v_move rfl) ?_
  refine x_ifb [] rfl rfl rfl rfl rfl (fun hg => by obtain ⟨hg0, _⟩ := hg; subst hg0; (try simp only [List.cons_append, List.nil_append, gvl_nil, gvl_t, gvl_f]); exact v_gtr rfl rfl) ?_
  intro b15 hb15
  refine x_bool rfl rfl rfl (v_or rfl rfl) ?_
  intro b16 hb16
  refine x_val rfl rfl rfl (v_move rfl) ?_
  refine x_if [] rfl rfl rfl rfl rfl (fun hg => by obtain ⟨hg0, _⟩ := hg; subst hg0; (try simp only [List.cons_append, List.nil_append, gvl_nil, gvl_t, gvl_f]); exact v_move rfl) ?_
  refine x_if [] rfl rfl rfl rfl rfl (fun hg => by obtain ⟨hg0, _⟩ := hg; subst hg0; (try simp only [List.cons_append, List.nil_append, gvl_nil, gvl_t, gvl_f]); exact v_len_str Tryz.underlying9 rfl) ?_
  refine x_ifb [] rfl rfl rfl rfl rfl (fun hg => by obtain ⟨hg0, _⟩ := hg; subst hg0; (try simp only [List.cons_append, List.nil_append, gvl_nil, gvl_t, gvl_f]); exact v_gtr rfl rfl) ?_
  intro b20 hb20
  refine x_if [] rfl rfl rfl rfl rfl (fun hg => by obtain ⟨hg0, _⟩ := hg; subst hg0; (try simp only [List.cons_append, List.nil_append, gvl_nil, gvl_t, gvl_f]); exact v_move rfl) ?_
  refine x_if [(b16, false)] rfl rfl rfl rfl rfl (fun hg => by obtain ⟨hg0, hg1, _⟩ := hg; subst hg0; subst hg1; (try simp only [List.cons_append, List.nil_append, gvl_nil, gvl_t, gvl_f]); exact v_move rfl) ?_
  refine x_if [(b16, false)] rfl rfl rfl rfl rfl (fun hg => by obtain ⟨hg0, hg1, _⟩ := hg; subst hg0; subst hg1; (try simp only [List.cons_append, List.nil_append, gvl_nil, gvl_t, gvl_f]); have h1 : 1 < s.size := (by have := of_decide_eq_true hb20.symm; omega); exact v_index (j := 0) Tryz.underlying9 rfl rfl (by omega)) ?_
  refine x_ifb [(b16, false)] rfl rfl rfl rfl rfl (fun hg => by obtain ⟨hg0, hg1, _⟩ := hg; subst hg0; subst hg1; (try simp only [List.cons_append, List.nil_append, gvl_nil, gvl_t, gvl_f]); exact v_eql rfl rfl) ?_
  intro b24 hb24
  refine x_ifb [] rfl rfl rfl rfl rfl (fun hg => by obtain ⟨hg0, _⟩ := hg; subst hg0; (try simp only [List.cons_append, List.nil_append, gvl_nil, gvl_t, gvl_f]); exact v_and rfl rfl) ?_
  intro b25 hb25
  refine x_bool rfl rfl rfl (v_or rfl rfl) ?_
  intro b26 hb26
  refine x_end ?_
  refine t_norm ?_
  refine w_cond rfl (fun hc26 => ?_) (fun hc26 => ?_)
  · simp only [hb26, hb25, hb24, hb20, hb16, hb15, hb10, decide_eq_true_eq, decide_eq_false_iff_not, Bool.and_eq_true, Bool.or_eq_true, Bool.and_eq_false_iff, Bool.or_eq_false_iff, Bool.not_eq_true', Bool.not_eq_false', ne_eq, Decidable.not_not] at hc26
    have hbad : ¬(canonL (bl s) ∧ s.size ≤ most) := fun ⟨⟨q1, q2, q3⟩, q4⟩ => by
      have q5 := List.length_pos_iff.2 q1
      rw [bl_len] at q5 q3
      rcases hc26 with (h | h) | ⟨h, h2⟩
      · omega
      · omega
      · refine q3 (by omega) ?_
        rw [head_byte (by omega), u8_lit (k := 48) |>.1 h2]
    refine w_seq ?_
    refine rg_text ?_
    refine x_val rfl rfl rfl (v_assign rfl) ?_
    refine x_val rfl rfl rfl (v_assign rfl) ?_
    refine x_end ?_
    refine t_norm ?_
    refine w_ret ?_
    refine t_ret ?_
    refine ret2 rfl rfl rfl (fun w' hm => ⟨?_, hm.base (by simp)⟩)
    unfold valP; rw [if_neg hbad]
  · simp only [hb26, hb25, hb24, hb20, hb16, hb15, hb10, decide_eq_true_eq, decide_eq_false_iff_not, Bool.and_eq_true, Bool.or_eq_true, Bool.and_eq_false_iff, Bool.or_eq_false_iff, Bool.not_eq_true', Bool.not_eq_false', ne_eq, Decidable.not_not] at hc26
    have hs0 : s.size ≠ 0 := by omega
    have hsm : s.size ≤ most := by omega
    have hlead : 1 < s.size → (bl s).head? ≠ some 48 := fun h1 h2 => by
      rw [head_byte (by omega)] at h2
      have h3 : byteAt s 0 = 48 := by simpa using h2
      rcases hc26.2 with h | h
      · omega
      · exact h (by rw [h3]; rfl)
    refine w_skip ?_
    refine t_norm ?_
    refine w_seq ?_
    refine rg_text ?_
    refine x_val rfl rfl rfl (v_assign rfl) ?_
    refine x_end ?_
    refine t_norm ?_
    refine w_seq ?_
    refine w_seq ?_
    refine rg_text ?_
    refine x_val rfl rfl rfl (v_assign rfl) ?_
    refine x_end ?_
    refine t_norm ?_
    refine w_block ?_
    refine w_loop (σ := Nat) (fun k => k ≤ s.size ∧ ∀ c ∈ (bl s).take k, digB8 c = true) (fun k => [(0, Value.string s), (6, Value.int .i64 ((numF ((bl s).take k) 0 : Nat) : Int)), (7, Value.int .i64 (k : Nat))]) (fun k => []) (fun k => [(w, fun _ => True)]) (fun k => s.size - k) (0) (⟨Nat.zero_le _, fun c hc => by simp at hc⟩) (l_start (by repeat (first | exact Sub.nil | refine Sub.cons rfl ?_)) (fun _ h => h)) ?_
    rintro k ⟨hk, hd⟩
    refine w_state ([(0, Value.string s), (6, Value.int .i64 ((numF ((bl s).take k) 0 : Nat) : Int)), (7, Value.int .i64 (k : Nat))]) ([]) ([(w, fun _ => True)]) ?_
    have hlt := numF_lt ((bl s).take k) hd
    have hp18 : 10 ^ ((bl s).take k).length ≤ 10 ^ 18 := Nat.pow_le_pow_right (by decide) (by rw [List.length_take, bl_len]; omega)
    have e18 : (10 : Nat) ^ 18 = 1000000000000000000 := by decide
    refine w_seq ?_
    refine w_seq ?_
    refine rg_text ?_
    refine x_val rfl rfl rfl (v_move rfl) ?_
    refine x_val rfl rfl rfl (v_move rfl) ?_
    refine x_val rfl rfl rfl (v_len_str Tryz.underlying9 rfl) ?_
    refine x_bool rfl rfl rfl (v_lss rfl rfl) ?_
    intro b30 hb30
    refine x_end ?_
    refine t_norm ?_
    refine w_cond rfl (fun hc30 => ?_) (fun hc30 => ?_)
    · simp only [hb30, decide_eq_true_eq, decide_eq_false_iff_not, Bool.and_eq_true, Bool.or_eq_true, Bool.and_eq_false_iff, Bool.or_eq_false_iff, Bool.not_eq_true', Bool.not_eq_false', ne_eq, Decidable.not_not] at hc30
      have hk1 : k < s.size := by omega
      have hp17 : 10 ^ ((bl s).take k).length ≤ 10 ^ 17 := Nat.pow_le_pow_right (by decide) (by rw [List.length_take, bl_len]; omega)
      have e17 : (10 : Nat) ^ 17 = 100000000000000000 := by decide
      refine w_skip ?_
      refine t_norm ?_
      refine w_seq ?_
      refine w_block ?_
      refine w_seq ?_
      refine w_seq ?_
      refine rg_text ?_
      refine x_val rfl rfl rfl (v_move rfl) ?_
      refine x_val rfl rfl rfl (v_move rfl) ?_
      refine x_val rfl rfl rfl (v_index Tryz.underlying9 rfl rfl (hk1)) ?_
      refine x_bool rfl rfl rfl (v_lss rfl rfl) ?_
      intro b36 hb36
      refine x_val rfl rfl rfl (v_move rfl) ?_
      refine x_if [] rfl rfl rfl rfl rfl (fun hg => by obtain ⟨hg0, _⟩ := hg; subst hg0; (try simp only [List.cons_append, List.nil_append, gvl_nil, gvl_t, gvl_f]); exact v_move rfl) ?_
      refine x_if [] rfl rfl rfl rfl rfl (fun hg => by obtain ⟨hg0, _⟩ := hg; subst hg0; (try simp only [List.cons_append, List.nil_append, gvl_nil, gvl_t, gvl_f]); exact v_move rfl) ?_
      refine x_if [] rfl rfl rfl rfl rfl (fun hg => by obtain ⟨hg0, _⟩ := hg; subst hg0; (try simp only [List.cons_append, List.nil_append, gvl_nil, gvl_t, gvl_f]); exact v_index Tryz.underlying9 rfl rfl (hk1)) ?_
      refine x_ifb [] rfl rfl rfl rfl rfl (fun hg => by obtain ⟨hg0, _⟩ := hg; subst hg0; (try simp only [List.cons_append, List.nil_append, gvl_nil, gvl_t, gvl_f]); exact v_gtr rfl rfl) ?_
      intro b41 hb41
      refine x_bool rfl rfl rfl (v_or rfl rfl) ?_
      intro b42 hb42
      refine x_end ?_
      refine t_norm ?_
      refine w_cond rfl (fun hc42 => ?_) (fun hc42 => ?_)
      · simp only [hb42, hb41, hb36, decide_eq_true_eq, decide_eq_false_iff_not, Bool.and_eq_true, Bool.or_eq_true, Bool.and_eq_false_iff, Bool.or_eq_false_iff, Bool.not_eq_true', Bool.not_eq_false', ne_eq, Decidable.not_not] at hc42
        have hnd : digB8 (byteAt s k) = false := decide_eq_false (by omega)
        have hbad : ¬(canonL (bl s) ∧ s.size ≤ most) := fun ⟨⟨q1, q2, q3⟩, q4⟩ => by
          have := q2 (byteAt s k) (by rw [← bl_get (by rw [bl_len]; exact hk1)]; exact List.getElem_mem _)
          rw [hnd] at this; cases this
        refine w_seq ?_
        refine rg_text ?_
        refine x_val rfl rfl rfl (v_assign rfl) ?_
        refine x_val rfl rfl rfl (v_assign rfl) ?_
        refine x_end ?_
        refine t_norm ?_
        refine w_ret ?_
        refine t_ret ?_
        refine b_ret ?_
        refine t_ret ?_
        refine t_ret ?_
        refine b_ret ?_
        refine t_ret ?_
        refine ret2 rfl rfl rfl (fun w' hm => ⟨?_, hm.base (by simp)⟩)
        unfold valP; rw [if_neg hbad]
      · simp only [hb42, hb41, hb36, decide_eq_true_eq, decide_eq_false_iff_not, Bool.and_eq_true, Bool.or_eq_true, Bool.and_eq_false_iff, Bool.or_eq_false_iff, Bool.not_eq_true', Bool.not_eq_false', ne_eq, Decidable.not_not] at hc42
        have hdg : digB8 (byteAt s k) = true := decide_eq_true (by omega)
        have hrg := of_decide_eq_true hdg
        have hstep : numF ((bl s).take (k + 1)) 0 = 10 * numF ((bl s).take k) 0 + ((byteAt s k).toNat - 48) := by rw [List.take_succ_eq_append_getElem (by rw [bl_len]; exact hk1), numF_snoc, bl_get]
        have hlt8 := (byteAt s k).toNat_lt
        refine w_skip ?_
        refine t_norm ?_
        refine rg_text ?_
        refine x_val rfl rfl rfl (v_move rfl) ?_
        refine x_val rfl rfl rfl (v_muli (c := ((10 * numF ((bl s).take k) 0 : Nat) : Int)) rfl rfl (by omega) (by omega)) ?_
        refine x_val rfl rfl rfl (v_move rfl) ?_
        refine x_val rfl rfl rfl (v_move rfl) ?_
        refine x_val rfl rfl rfl (v_index Tryz.underlying9 rfl rfl (hk1)) ?_
        refine x_val rfl rfl rfl (v_subU8 (a := (byteAt s k).toNat) (b := 48) rfl rfl hrg.1 (by omega)) ?_
        refine x_val rfl rfl rfl (v_conv64 Tryz.underlying5 Tryz.underlying3 rfl (by omega)) ?_
        refine x_val rfl rfl rfl (v_addi (c := ((numF ((bl s).take (k + 1)) 0 : Nat) : Int)) rfl rfl (by rw [hstep]; omega) (by rw [hstep]; omega)) ?_
        refine x_val rfl rfl rfl (v_assign rfl) ?_
        refine x_end ?_
        refine b_norm ?_
        refine t_norm ?_
        refine rg_text ?_
        refine x_val rfl rfl rfl (v_move rfl) ?_
        refine x_val rfl rfl rfl (v_addi rfl rfl rfl (by first | omega | (dsimp only; omega))) ?_
        refine x_val rfl rfl rfl (v_assign rfl) ?_
        refine x_end ?_
        exact l_norm (k + 1) ⟨by omega, fun c hc => by rw [List.take_succ_eq_append_getElem (by rw [bl_len]; exact hk1)] at hc; rcases List.mem_append.1 hc with h | h; (· exact hd c h); rw [List.mem_singleton.1 h, bl_get]; exact hdg⟩ (by omega) (by repeat (first | exact Sub.nil | refine Sub.cons rfl ?_)) (fun _ h => h)
    · simp only [hb30, decide_eq_true_eq, decide_eq_false_iff_not, Bool.and_eq_true, Bool.or_eq_true, Bool.and_eq_false_iff, Bool.or_eq_false_iff, Bool.not_eq_true', Bool.not_eq_false', ne_eq, Decidable.not_not] at hc30
      obtain rfl : k = s.size := by omega
      rw [List.take_of_length_le (by rw [bl_len]; exact Nat.le_refl _)] at hd
      refine w_exit ?_
      refine t_exit ?_
      refine t_exit ?_
      refine b_hit ?_
      refine t_norm ?_
      refine w_seq ?_
      refine rg_text ?_
      refine x_val rfl rfl rfl (v_move rfl) ?_
      refine x_val rfl rfl rfl (v_assign rfl) ?_
      refine x_val rfl rfl rfl (v_assign rfl) ?_
      refine x_end ?_
      refine t_norm ?_
      refine w_ret ?_
      refine ret2 rfl rfl rfl (fun w' hm => ⟨?_, hm.base (by simp)⟩)
      rw [List.take_of_length_le (by rw [bl_len]; exact Nat.le_refl _)]
      unfold valP
      rw [if_pos ⟨⟨List.length_pos_iff.1 (by rw [bl_len]; omega), hd, fun h => hlead (by rw [bl_len] at h; exact h)⟩, hsm⟩]
set_option maxRecDepth 100000 in
theorem c_rWritable (o : Ord) (w : World) :
    Calls Tryz.prog 34 #[.agg o.cells.toArray] w fun e w' => e = .returned (.bool (writB o)) ∧ Later w w' := by
  refine enter (vs := [.agg o.cells.toArray]) Tryz.func34 rfl Tryz.ntmps34 rfl ?_
  refine w_seq ?_
  refine rg_text ?_
  refine x_box rfl rfl rfl rfl ?_
  intro p1
  refine x_val rfl rfl rfl (v_assign rfl) ?_
  refine x_end ?_
  refine t_norm ?_
  refine w_seq ?_
  refine rg_text ?_
  refine x_val rfl rfl rfl (v_assign rfl) ?_
  refine x_end ?_
  refine t_norm ?_
  refine w_seq ?_
  refine rg_text ?_
  refine x_val rfl rfl rfl (v_fieldAddr (off' := 0) Tryz.underlying25 rfl sz3 (by decide) rfl rfl) ?_
  refine x_val rfl rfl rfl (v_load Tryz.underlying3 rfl rfl (at_ownL (vs := o.cells) (.head _) rfl)) ?_
  refine x_bool rfl rfl rfl (v_geq rfl rfl) ?_
  intro b6 hb6
  refine x_val rfl rfl rfl (v_move rfl) ?_
  refine x_if [] rfl rfl rfl rfl rfl (fun hg => by obtain ⟨hg0, _⟩ := hg; subst hg0; (try simp only [List.cons_append, List.nil_append, gvl_nil, gvl_t, gvl_f]); exact v_fieldAddr (off' := 0) Tryz.underlying25 rfl sz3 (by decide) rfl rfl) ?_
  refine x_if [] rfl rfl rfl rfl rfl (fun hg => by obtain ⟨hg0, _⟩ := hg; subst hg0; (try simp only [List.cons_append, List.nil_append, gvl_nil, gvl_t, gvl_f]); exact v_load Tryz.underlying3 rfl rfl (at_ownL (vs := o.cells) (.head _) rfl)) ?_
  refine x_if [] rfl rfl rfl rfl rfl (fun hg => by obtain ⟨hg0, _⟩ := hg; subst hg0; (try simp only [List.cons_append, List.nil_append, gvl_nil, gvl_t, gvl_f]); exact v_move rfl) ?_
  refine x_ifb [] rfl rfl rfl rfl rfl (fun hg => by obtain ⟨hg0, _⟩ := hg; subst hg0; (try simp only [List.cons_append, List.nil_append, gvl_nil, gvl_t, gvl_f]); exact v_leq rfl rfl) ?_
  intro b11 hb11
  refine x_bool rfl rfl rfl (v_and rfl rfl) ?_
  intro b12 hb12
  refine x_val rfl rfl rfl (v_move rfl) ?_
  refine x_if [] rfl rfl rfl rfl rfl (fun hg => by obtain ⟨hg0, _⟩ := hg; subst hg0; (try simp only [List.cons_append, List.nil_append, gvl_nil, gvl_t, gvl_f]); exact v_fieldAddr (off' := 1) Tryz.underlying25 rfl sz3 (by decide) rfl rfl) ?_
  refine x_if [] rfl rfl rfl rfl rfl (fun hg => by obtain ⟨hg0, _⟩ := hg; subst hg0; (try simp only [List.cons_append, List.nil_append, gvl_nil, gvl_t, gvl_f]); exact v_load Tryz.underlying3 rfl rfl (at_ownL (vs := o.cells) (.head _) rfl)) ?_
  refine x_ifb [] rfl rfl rfl rfl rfl (fun hg => by obtain ⟨hg0, _⟩ := hg; subst hg0; (try simp only [List.cons_append, List.nil_append, gvl_nil, gvl_t, gvl_f]); exact v_geq rfl rfl) ?_
  intro b16 hb16
  refine x_bool rfl rfl rfl (v_and rfl rfl) ?_
  intro b17 hb17
  refine x_val rfl rfl rfl (v_move rfl) ?_
  refine x_if [] rfl rfl rfl rfl rfl (fun hg => by obtain ⟨hg0, _⟩ := hg; subst hg0; (try simp only [List.cons_append, List.nil_append, gvl_nil, gvl_t, gvl_f]); exact v_fieldAddr (off' := 1) Tryz.underlying25 rfl sz3 (by decide) rfl rfl) ?_
  refine x_if [] rfl rfl rfl rfl rfl (fun hg => by obtain ⟨hg0, _⟩ := hg; subst hg0; (try simp only [List.cons_append, List.nil_append, gvl_nil, gvl_t, gvl_f]); exact v_load Tryz.underlying3 rfl rfl (at_ownL (vs := o.cells) (.head _) rfl)) ?_
  refine x_if [] rfl rfl rfl rfl rfl (fun hg => by obtain ⟨hg0, _⟩ := hg; subst hg0; (try simp only [List.cons_append, List.nil_append, gvl_nil, gvl_t, gvl_f]); exact v_move rfl) ?_
  refine x_ifb [] rfl rfl rfl rfl rfl (fun hg => by obtain ⟨hg0, _⟩ := hg; subst hg0; (try simp only [List.cons_append, List.nil_append, gvl_nil, gvl_t, gvl_f]); exact v_leq rfl rfl) ?_
  intro b22 hb22
  refine x_bool rfl rfl rfl (v_and rfl rfl) ?_
  intro b23 hb23
  refine x_val rfl rfl rfl (v_move rfl) ?_
  refine x_if [] rfl rfl rfl rfl rfl (fun hg => by obtain ⟨hg0, _⟩ := hg; subst hg0; (try simp only [List.cons_append, List.nil_append, gvl_nil, gvl_t, gvl_f]); exact v_fieldAddr (off' := 2) Tryz.underlying25 rfl sz23 (by decide) rfl rfl) ?_
  refine x_if [] rfl rfl rfl rfl rfl (fun hg => by obtain ⟨hg0, _⟩ := hg; subst hg0; (try simp only [List.cons_append, List.nil_append, gvl_nil, gvl_t, gvl_f]); exact v_fieldAddr (off' := 2) Tryz.underlying23 rfl sz3 (by decide) rfl rfl) ?_
  refine x_if [] rfl rfl rfl rfl rfl (fun hg => by obtain ⟨hg0, _⟩ := hg; subst hg0; (try simp only [List.cons_append, List.nil_append, gvl_nil, gvl_t, gvl_f]); exact v_load Tryz.underlying3 rfl rfl (at_ownL (vs := o.cells) (.head _) rfl)) ?_
  refine x_ifb [] rfl rfl rfl rfl rfl (fun hg => by obtain ⟨hg0, _⟩ := hg; subst hg0; (try simp only [List.cons_append, List.nil_append, gvl_nil, gvl_t, gvl_f]); exact v_geq rfl rfl) ?_
  intro b28 hb28
  refine x_bool rfl rfl rfl (v_and rfl rfl) ?_
  intro b29 hb29
  refine x_val rfl rfl rfl (v_move rfl) ?_
  refine x_if [] rfl rfl rfl rfl rfl (fun hg => by obtain ⟨hg0, _⟩ := hg; subst hg0; (try simp only [List.cons_append, List.nil_append, gvl_nil, gvl_t, gvl_f]); exact v_fieldAddr (off' := 2) Tryz.underlying25 rfl sz23 (by decide) rfl rfl) ?_
  refine x_if [] rfl rfl rfl rfl rfl (fun hg => by obtain ⟨hg0, _⟩ := hg; subst hg0; (try simp only [List.cons_append, List.nil_append, gvl_nil, gvl_t, gvl_f]); exact v_fieldAddr (off' := 2) Tryz.underlying23 rfl sz3 (by decide) rfl rfl) ?_
  refine x_if [] rfl rfl rfl rfl rfl (fun hg => by obtain ⟨hg0, _⟩ := hg; subst hg0; (try simp only [List.cons_append, List.nil_append, gvl_nil, gvl_t, gvl_f]); exact v_load Tryz.underlying3 rfl rfl (at_ownL (vs := o.cells) (.head _) rfl)) ?_
  refine x_if [] rfl rfl rfl rfl rfl (fun hg => by obtain ⟨hg0, _⟩ := hg; subst hg0; (try simp only [List.cons_append, List.nil_append, gvl_nil, gvl_t, gvl_f]); exact v_move rfl) ?_
  refine x_ifb [] rfl rfl rfl rfl rfl (fun hg => by obtain ⟨hg0, _⟩ := hg; subst hg0; (try simp only [List.cons_append, List.nil_append, gvl_nil, gvl_t, gvl_f]); exact v_leq rfl rfl) ?_
  intro b35 hb35
  refine x_bool rfl rfl rfl (v_and rfl rfl) ?_
  intro b36 hb36
  refine x_val rfl rfl rfl (v_move rfl) ?_
  refine x_if [] rfl rfl rfl rfl rfl (fun hg => by obtain ⟨hg0, _⟩ := hg; subst hg0; (try simp only [List.cons_append, List.nil_append, gvl_nil, gvl_t, gvl_f]); exact v_fieldAddr (off' := 2) Tryz.underlying25 rfl sz23 (by decide) rfl rfl) ?_
  refine x_if [] rfl rfl rfl rfl rfl (fun hg => by obtain ⟨hg0, _⟩ := hg; subst hg0; (try simp only [List.cons_append, List.nil_append, gvl_nil, gvl_t, gvl_f]); exact v_fieldAddr (off' := 3) Tryz.underlying23 rfl sz3 (by decide) rfl rfl) ?_
  refine x_if [] rfl rfl rfl rfl rfl (fun hg => by obtain ⟨hg0, _⟩ := hg; subst hg0; (try simp only [List.cons_append, List.nil_append, gvl_nil, gvl_t, gvl_f]); exact v_load Tryz.underlying3 rfl rfl (at_ownL (vs := o.cells) (.head _) rfl)) ?_
  refine x_ifb [] rfl rfl rfl rfl rfl (fun hg => by obtain ⟨hg0, _⟩ := hg; subst hg0; (try simp only [List.cons_append, List.nil_append, gvl_nil, gvl_t, gvl_f]); exact v_geq rfl rfl) ?_
  intro b41 hb41
  refine x_bool rfl rfl rfl (v_and rfl rfl) ?_
  intro b42 hb42
  refine x_val rfl rfl rfl (v_move rfl) ?_
  refine x_if [] rfl rfl rfl rfl rfl (fun hg => by obtain ⟨hg0, _⟩ := hg; subst hg0; (try simp only [List.cons_append, List.nil_append, gvl_nil, gvl_t, gvl_f]); exact v_fieldAddr (off' := 2) Tryz.underlying25 rfl sz23 (by decide) rfl rfl) ?_
  refine x_if [] rfl rfl rfl rfl rfl (fun hg => by obtain ⟨hg0, _⟩ := hg; subst hg0; (try simp only [List.cons_append, List.nil_append, gvl_nil, gvl_t, gvl_f]); exact v_fieldAddr (off' := 3) Tryz.underlying23 rfl sz3 (by decide) rfl rfl) ?_
  refine x_if [] rfl rfl rfl rfl rfl (fun hg => by obtain ⟨hg0, _⟩ := hg; subst hg0; (try simp only [List.cons_append, List.nil_append, gvl_nil, gvl_t, gvl_f]); exact v_load Tryz.underlying3 rfl rfl (at_ownL (vs := o.cells) (.head _) rfl)) ?_
  refine x_if [] rfl rfl rfl rfl rfl (fun hg => by obtain ⟨hg0, _⟩ := hg; subst hg0; (try simp only [List.cons_append, List.nil_append, gvl_nil, gvl_t, gvl_f]); exact v_move rfl) ?_
  refine x_ifb [] rfl rfl rfl rfl rfl (fun hg => by obtain ⟨hg0, _⟩ := hg; subst hg0; (try simp only [List.cons_append, List.nil_append, gvl_nil, gvl_t, gvl_f]); exact v_leq rfl rfl) ?_
  intro b48 hb48
  refine x_bool rfl rfl rfl (v_and rfl rfl) ?_
  intro b49 hb49
  refine x_val rfl rfl rfl (v_move rfl) ?_
  refine x_if [] rfl rfl rfl rfl rfl (fun hg => by obtain ⟨hg0, _⟩ := hg; subst hg0; (try simp only [List.cons_append, List.nil_append, gvl_nil, gvl_t, gvl_f]); exact v_fieldAddr (off' := 5) Tryz.underlying25 rfl sz3 (by decide) rfl rfl) ?_
  refine x_if [] rfl rfl rfl rfl rfl (fun hg => by obtain ⟨hg0, _⟩ := hg; subst hg0; (try simp only [List.cons_append, List.nil_append, gvl_nil, gvl_t, gvl_f]); exact v_load Tryz.underlying3 rfl rfl (at_ownL (vs := o.cells) (.head _) rfl)) ?_
  refine x_ifb [] rfl rfl rfl rfl rfl (fun hg => by obtain ⟨hg0, _⟩ := hg; subst hg0; (try simp only [List.cons_append, List.nil_append, gvl_nil, gvl_t, gvl_f]); exact v_geq rfl rfl) ?_
  intro b53 hb53
  refine x_bool rfl rfl rfl (v_and rfl rfl) ?_
  intro b54 hb54
  refine x_val rfl rfl rfl (v_move rfl) ?_
  refine x_if [] rfl rfl rfl rfl rfl (fun hg => by obtain ⟨hg0, _⟩ := hg; subst hg0; (try simp only [List.cons_append, List.nil_append, gvl_nil, gvl_t, gvl_f]); exact v_fieldAddr (off' := 5) Tryz.underlying25 rfl sz3 (by decide) rfl rfl) ?_
  refine x_if [] rfl rfl rfl rfl rfl (fun hg => by obtain ⟨hg0, _⟩ := hg; subst hg0; (try simp only [List.cons_append, List.nil_append, gvl_nil, gvl_t, gvl_f]); exact v_load Tryz.underlying3 rfl rfl (at_ownL (vs := o.cells) (.head _) rfl)) ?_
  refine x_if [] rfl rfl rfl rfl rfl (fun hg => by obtain ⟨hg0, _⟩ := hg; subst hg0; (try simp only [List.cons_append, List.nil_append, gvl_nil, gvl_t, gvl_f]); exact v_move rfl) ?_
  refine x_ifb [] rfl rfl rfl rfl rfl (fun hg => by obtain ⟨hg0, _⟩ := hg; subst hg0; (try simp only [List.cons_append, List.nil_append, gvl_nil, gvl_t, gvl_f]); exact v_leq rfl rfl) ?_
  intro b59 hb59
  refine x_bool rfl rfl rfl (v_and rfl rfl) ?_
  intro b60 hb60
  refine x_val rfl rfl rfl (v_move rfl) ?_
  refine x_if [] rfl rfl rfl rfl rfl (fun hg => by obtain ⟨hg0, _⟩ := hg; subst hg0; (try simp only [List.cons_append, List.nil_append, gvl_nil, gvl_t, gvl_f]); exact v_fieldAddr (off' := 4) Tryz.underlying25 rfl sz3 (by decide) rfl rfl) ?_
  refine x_if [] rfl rfl rfl rfl rfl (fun hg => by obtain ⟨hg0, _⟩ := hg; subst hg0; (try simp only [List.cons_append, List.nil_append, gvl_nil, gvl_t, gvl_f]); exact v_load Tryz.underlying3 rfl rfl (at_ownL (vs := o.cells) (.head _) rfl)) ?_
  refine x_ifb [] rfl rfl rfl rfl rfl (fun hg => by obtain ⟨hg0, _⟩ := hg; subst hg0; (try simp only [List.cons_append, List.nil_append, gvl_nil, gvl_t, gvl_f]); exact v_geq rfl rfl) ?_
  intro b64 hb64
  refine x_bool rfl rfl rfl (v_and rfl rfl) ?_
  intro b65 hb65
  refine x_val rfl rfl rfl (v_move rfl) ?_
  refine x_if [] rfl rfl rfl rfl rfl (fun hg => by obtain ⟨hg0, _⟩ := hg; subst hg0; (try simp only [List.cons_append, List.nil_append, gvl_nil, gvl_t, gvl_f]); exact v_fieldAddr (off' := 4) Tryz.underlying25 rfl sz3 (by decide) rfl rfl) ?_
  refine x_if [] rfl rfl rfl rfl rfl (fun hg => by obtain ⟨hg0, _⟩ := hg; subst hg0; (try simp only [List.cons_append, List.nil_append, gvl_nil, gvl_t, gvl_f]); exact v_load Tryz.underlying3 rfl rfl (at_ownL (vs := o.cells) (.head _) rfl)) ?_
  refine x_ifb [] rfl rfl rfl rfl rfl (fun hg => by obtain ⟨hg0, _⟩ := hg; subst hg0; (try simp only [List.cons_append, List.nil_append, gvl_nil, gvl_t, gvl_f]); exact v_leq rfl rfl) ?_
  intro b69 hb69
  refine x_bool rfl rfl rfl (v_and rfl rfl) ?_
  intro b70 hb70
  refine x_val rfl rfl rfl (v_assign rfl) ?_
  refine x_end ?_
  refine t_norm ?_
  refine w_ret ?_
  refine ret1 rfl rfl (fun w' hm => ⟨?_, hm.base (by simp)⟩)
  congr 3
  rw [Bool.eq_iff_iff, writB_iff]
  rw [hb70, hb69, hb65, hb64, hb60, hb59, hb54, hb53, hb49, hb48, hb42, hb41, hb36, hb35, hb29, hb28, hb23, hb22, hb17, hb16, hb12, hb11, hb6]
  unfold wrO
  simp only [Bool.and_eq_true, decide_eq_true_eq]
  omega

end Go.Proofs.YtbamklefagghcaaGreatDoor
