/- Of the proofs of YtbamklefagghcaaGreatDoor: Xl Xm, put together. -/
import Derived.Test.YtbamklefagghcaaGreatDoorT6
import Derived.Test.YtbamklefagghcaaGreatDoorT2
import Derived.Test.YtbamklefagghcaaGreatDoorT1
import Derived.Test.YtbamklefagghcaaGreatDoorT3
import Derived.Test.YtbamklefagghcaaGreatDoorT4
import Derived.Test.YtbamklefagghcaaGreatDoorT5
namespace Go.Proofs.YtbamklefagghcaaGreatDoor
open Go.RowKit Go.PK
set_option linter.unusedVariables false
set_option linter.unusedSimpArgs false
set_option maxHeartbeats 1000000 in
set_option maxRecDepth 100000 in
theorem d4 {v : Value} {ls : List PK.Ord} {D : Nat → Prop} (w : World) (hls : sliceRd tyOrd D w v ls) (o : PK.Ord) (hok : o.okA) (hL : LD w) :
    Calls Tryz.prog 4 #[v, .agg o.cells.toArray] w fun e w' => e = .returned (.bool (true)) ∧ Later w w' := by
  obtain ⟨A, cp, rfl, hlc, hmx, _⟩ := id hls
  refine enter (vs := [Value.slice A ls.length cp, .agg o.cells.toArray]) Tryz.func4 rfl Tryz.ntmps4 rfl ?_
  refine w_seq ?_
  refine rg_text ?_
  refine x_box rfl rfl rfl rfl ?_
  intro p3
  refine x_val rfl rfl rfl (v_assign rfl) ?_
  refine x_end ?_
  refine t_norm ?_
  refine w_seq ?_
  refine rg_text ?_
  refine x_callb rfl rfl rfl Tryz.func9 (by kernel_rfl) rfl (fun w1 hw1 => c_sanity w1 (hL.later (hw1.base (by simp)))) ?_
  intro b14 hb14
  obtain rfl : b14 = true := hb14
  refine x_val rfl rfl rfl (v_assign rfl) ?_
  refine x_end ?_
  refine t_norm ?_
  refine w_seq ?_
  refine rg_text ?_
  refine x_val rfl rfl rfl (v_move rfl) ?_
  refine x_call (R := fun v wa wb => ∃ A1 c1, v = .slice A1 (cutP ls 20).length c1 ∧ sliceRd tyOrd (fun b => wa.heap.size ≤ b) wb (.slice A1 (cutP ls 20).length c1) (cutP ls 20)) rfl rfl rfl Tryz.func15 (by kernel_rfl) rfl (fun w1 hw1 => (c_cut w1 (hls.keep (Kept.later (hw1.base (by simp)))) 20 (by decide)).mono fun e w2 ⟨v, h1, h2, h3⟩ => ord_sl h1 h2 h3) ?_
  intro v16 wa16 wb16 hm16 hl16 hR16
  obtain ⟨A16, c16, rfl, hr16⟩ := hR16
  refine x_val rfl rfl rfl (v_assign rfl) ?_
  refine x_end ?_
  refine t_norm ?_
  refine w_seq ?_
  refine w_seq ?_
  refine rg_inv ([(p3, Obj.cells o.cells.toArray 25)]) 13 (.flt 0 (.flt 1 (.flt 2 (.flt 3 (.flt 4 (.flt 5 (.flt 6 (.flt 7 (.flt 12 (.gr 8 (.gr 9 (.gr 10 (.flt 11 .done) .nil) .nil) .nil)))))))))) (.refl _) (by kernel_rfl) (by kernel_rfl) ?_
  refine j_val rfl rfl (v_move rfl) ?_
  refine j_val rfl rfl (v_move rfl) ?_
  refine j_val rfl rfl (v_move rfl) ?_
  refine j_val rfl rfl (v_len_slice Tryz.underlying28 rfl) ?_
  refine j_val rfl rfl (v_move rfl) ?_
  refine j_val rfl rfl (v_len_slice Tryz.underlying28 rfl) ?_
  obtain ⟨_, _, hee, hcap, hmxL, _⟩ := id hr16
  injection hee with _ _ hee
  subst hee
  have hl20 : (cutP ls 20).length ≤ 20 := by rw [cutP_len]; omega
  refine j_val rfl rfl (v_scut_full (j := (cutP ls 20).length) Tryz.underlying28 sz25 rfl rfl rfl hcap) ?_
  refine j_val rfl rfl (v_load_blk (e := 25) (fz := (0, 0)) (cs := (o).cells.toArray) Tryz.underlying25 rfl rfl (by repeat (first | exact List.Mem.head _ | apply List.Mem.tail)) sz25) ?_
  refine j_val rfl rfl (v_move rfl) ?_
  refine j_gr ?_ j_nil
  refine x_buildSliceL (cs := o.cells) rfl rfl rfl Tryz.underlying28 sz25 zr25 rfl rfl rfl ?_
  intro p25
  refine x_end ?_
  refine j_end (.cons _ (.refl _)) ?_
  refine j_gr ?_ j_nil
  obtain ⟨css, hcl, hcf, hrd, hno, hcells⟩ := cells_new hr16 hm16
  refine x_append_full (e := 25) (A := A16) (n0 := (cutP ls 20).length) (m := 1) (olds := css.flatten) (news := o.cells) rfl rfl rfl rfl hno (by decide) (fun w1 hw1 => hcells hw1 (by simp)) hcf Tryz.underlying28 ap25 rfl rfl (fun i hi => at_ownL (vs := o.cells) (.head _) (by rw [Nat.zero_add]; exact List.getElem?_eq_getElem hi)) rfl (by simp only [maxLen]; omega) (by omega) ?_
  intro R1 hR1
  refine x_end ?_
  refine j_end ((List.Sublist.cons _ (.refl _)).trans (List.sublist_append_right _ _)) ?_
  refine j_gr ?_ j_nil
  refine x_buildSliceL (cs := [Value.slice A16 (cutP ls 20).length c16, rowV R1 ((cutP ls 20).length + 1)]) rfl rfl rfl Tryz.underlying37 sz28 zr28 rfl rfl rfl ?_
  intro p27
  refine x_end ?_
  refine j_end (.cons _ ((List.Sublist.cons _ (.refl _)).trans (List.sublist_append_right _ _))) ?_
  refine j_val rfl rfl (v_len_slice Tryz.underlying37 rfl) ?_
  refine j_done ?_
  refine x_end ?_
  refine t_norm ?_
  refine w_block ?_
  have hT1 : RowT tyOrd (fun _ => False) w R1 ((cutP ls 20) ++ [o]) := snocN (T := tyOrd) (n := (cutP ls 20).length) rfl hcl (fun j h1 h2 => ord_any (hrd j h1 h2)) hR1 ⟨rfl, hok⟩
  refine w_fix [(p27, Obj.cells [Value.slice A16 (cutP ls 20).length c16, rowV R1 ((cutP ls 20).length + 1)].toArray 28)] (List.Sublist.cons_cons _ (List.nil_sublist _)) (fun w0 hm0 => ?_)
  have hmB := hm0.less (own' := [(p27, Obj.cells [Value.slice A16 (cutP ls 20).length c16, rowV R1 ((cutP ls 20).length + 1)].toArray 28)]) (List.Sublist.cons_cons _ (List.nil_sublist _)) (fun _ h => h)
  have hX0 : sliceRd tyOrd (newD w [(p27, Obj.cells [Value.slice A16 (cutP ls 20).length c16, rowV R1 ((cutP ls 20).length + 1)].toArray 28)]) w0 (.slice A16 (cutP ls 20).length c16) (cutP ls 20) := hr16.keep (Kept.made hmB (by simp) hm16 (hm16.base (by simp)).size)
  have hX1 : sliceRd tyOrd (newD w [(p27, Obj.cells [Value.slice A16 (cutP ls 20).length c16, rowV R1 ((cutP ls 20).length + 1)].toArray 28)]) w0 (rowV R1 ((cutP ls 20).length + 1)) ((cutP ls 20) ++ [o]) := hT1.any (e := 25) hm0 (fun q hq => List.mem_cons_of_mem _ (List.mem_append_left _ hq)) (fun q hq => ⟨hm0.newer (by simp) (List.mem_cons_of_mem _ (List.mem_append_left _ hq)), hm0.ne_head (List.mem_append_left _ hq)⟩) (by simp)
  refine w_loop (σ := Nat) (fun k => k ≤ 2) (fun k => [(5, Value.bool true), (27, Value.slice (some ⟨p27, 0, none⟩) 2 2), (28, Value.int .i64 2), (29, Value.int .i64 (k : Nat))]) (fun k => [(p27, Obj.cells [Value.slice A16 (cutP ls 20).length c16, rowV R1 ((cutP ls 20).length + 1)].toArray 28)]) (fun k => [(w0, notOwn [(p27, Obj.cells [Value.slice A16 (cutP ls 20).length c16, rowV R1 ((cutP ls 20).length + 1)].toArray 28)]), (w, fun _ => True)]) (fun k => 2 - k) (0) (Nat.zero_le _) (l_start (by repeat (first | exact Sub.nil | refine Sub.cons rfl ?_)) (fun _ h => h.less (.refl _) (fun q hq => by simp at hq ⊢; rcases hq with h | h; (· simp [h]); simp [h]))) ?_
  rintro k hk
  refine w_state ([(5, Value.bool true), (27, Value.slice (some ⟨p27, 0, none⟩) 2 2), (28, Value.int .i64 2), (29, Value.int .i64 (k : Nat))]) ([(p27, Obj.cells [Value.slice A16 (cutP ls 20).length c16, rowV R1 ((cutP ls 20).length + 1)].toArray 28)]) ([(w0, notOwn [(p27, Obj.cells [Value.slice A16 (cutP ls 20).length c16, rowV R1 ((cutP ls 20).length + 1)].toArray 28)]), (w, fun _ => True)]) ?_
  refine w_seq ?_
  refine rg_text ?_
  refine x_bool rfl rfl rfl (v_lss rfl rfl) ?_
  intro b30 hb30
  refine x_end ?_
  refine t_norm ?_
  refine w_seq ?_
  refine w_cond rfl (fun hc30 => ?_) (fun hc30 => ?_)
  · simp only [hb30, decide_eq_true_eq, decide_eq_false_iff_not, Bool.and_eq_true, Bool.or_eq_true, Bool.and_eq_false_iff, Bool.or_eq_false_iff, Bool.not_eq_true', Bool.not_eq_false', ne_eq, Decidable.not_not] at hc30
    have hk2 : k < 2 := by omega
    obtain ⟨X, AX, cX, hXv, hX, hXc, hXm⟩ := two_lists hX0 hX1 hk2
    refine w_skip ?_
    refine t_norm ?_
    refine w_seq ?_
    refine w_block ?_
    refine w_seq ?_
    refine rg_text ?_
    refine x_val rfl rfl rfl (v_indexAddr Tryz.underlying37 sz28 rfl rfl (by first | omega | (dsimp only; omega)) rfl) ?_
    refine x_val rfl rfl rfl (v_load Tryz.underlying28 rfl rfl (at_ownL (vs := [Value.slice A16 (cutP ls 20).length c16, rowV R1 ((cutP ls 20).length + 1)]) (.head _) (show ([Value.slice A16 (cutP ls 20).length c16, rowV R1 ((cutP ls 20).length + 1)])[0 + k * 1]? = some (Value.slice AX X.length cX) from by rw [Nat.mul_one, Nat.zero_add]; exact hXv))) ?_
    refine x_val rfl rfl rfl (v_assign rfl) ?_
    refine x_end ?_
    refine t_norm ?_
    refine w_seq ?_
    refine rg_text ?_
    refine x_val rfl rfl rfl (v_move rfl) ?_
    refine x_call (R := fun v wa wb => ∃ A1 c1, v = .slice A1 (invR X).length c1 ∧ sliceRd tySeg (fun b => wa.heap.size ≤ b) wb (.slice A1 (invR X).length c1) (invR X) ∧ A1.isNone = decide ((invR X).length = 0)) rfl rfl rfl Tryz.func16 (by kernel_rfl) rfl (fun w1 hw1 => (c_Invoice (ls := X) w1 (hX.keep (Kept.new hw1 (by simp))) (hL.later (hw1.base (by simp)))).mono fun e w2 ⟨v, h1, h2, h3, h4⟩ => ord_out h1 h2 h3 h4) ?_
    intro v34 wa34 wb34 hm34 hl34 hR34
    obtain ⟨A34, c34, rfl, hr34, _⟩ := hR34
    refine x_val rfl rfl rfl (v_assign rfl) ?_
    refine x_end ?_
    refine t_norm ?_
    refine w_seq ?_
    refine w_seq ?_
    refine rg_text ?_
    refine x_val rfl rfl rfl (v_move rfl) ?_
    refine x_val rfl rfl rfl (v_move rfl) ?_
    refine x_call (R := fun v wa wb => sliceRd tySeg (fun b => wa.heap.size ≤ b) wb v (invR X)) rfl rfl rfl Tryz.func17 (by kernel_rfl) rfl (fun w1 hw1 => (c_rInvoice (ls := X) w1 (hX.keep (Kept.new hw1 (by simp)))).mono fun e w2 ⟨v, h1, h2, h3⟩ => ⟨_, h1, h2, h3⟩) ?_
    intro v37 wa37 wb37 hm37 hl37 hR37
    refine x_callb rfl rfl rfl Tryz.func12 (by kernel_rfl) rfl (fun w1 hw1 => c_Same (xs := invR X) (ys := invR X) w1 (keep_new hr34 hw1 (by simp) hm34) (keep_new hR37 hw1 (by simp) hm37)) ?_
    intro b38 hb38
    refine x_bool rfl rfl rfl (v_not rfl) ?_
    intro b39 hb39
    refine x_end ?_
    refine t_norm ?_
    refine w_cond rfl (fun hc39 => ?_) (fun hc39 => ?_)
    · exfalso
      rw [hb39, hb38] at hc39
      simp at hc39
    · simp only [hb39, hb38, decide_eq_true_eq, decide_eq_false_iff_not, Bool.and_eq_true, Bool.or_eq_true, Bool.and_eq_false_iff, Bool.or_eq_false_iff, Bool.not_eq_true', Bool.not_eq_false', ne_eq, Decidable.not_not] at hc39
      refine w_skip ?_
      refine t_norm ?_
      refine w_seq ?_
      refine rg_text ?_
      refine x_val rfl rfl rfl (v_move rfl) ?_
      refine x_call (R := fun v wa wb => ∃ A1 c1, v = .tuple #[.slice A1 (rdI (invR X)).1.length c1, .int .i64 (rdI (invR X)).2] ∧ sliceRd tyOrd (fun b => wa.heap.size ≤ b) wb (.slice A1 (rdI (invR X)).1.length c1) (rdI (invR X)).1) rfl rfl rfl Tryz.func18 (by kernel_rfl) rfl (fun w1 hw1 => (c_ReadInvoice (l := invR X) w1 (keep_new hr34 hw1 (by simp) hm34) (invR_big X) (hL.later (hw1.base (by simp)))).mono fun e w2 ⟨q, h1, h2, h3⟩ => by obtain ⟨A1, c1, rfl, _⟩ := id h3; exact ⟨_, h1, h2, A1, c1, rfl, h3⟩) ?_
      intro v42 wa42 wb42 hm42 hl42 hR42
      obtain ⟨A42, c42, rfl, hr42⟩ := hR42
      refine x_val rfl rfl rfl (v_move rfl) ?_
      refine x_val rfl rfl rfl (v_extract rfl rfl) ?_
      refine x_val rfl rfl rfl (v_extract rfl rfl) ?_
      refine x_val rfl rfl rfl (v_assign rfl) ?_
      refine x_val rfl rfl rfl (v_assign rfl) ?_
      refine x_end ?_
      refine t_norm ?_
      refine w_seq ?_
      refine w_seq ?_
      refine rg_text ?_
      refine x_val rfl rfl rfl (v_move rfl) ?_
      refine x_val rfl rfl rfl (v_len_slice Tryz.underlying29 rfl) ?_
      refine x_bool rfl rfl rfl (v_eql rfl rfl) ?_
      intro b47 hb47
      refine x_end ?_
      refine t_norm ?_
      refine w_cond rfl (fun hc47 => ?_) (fun hc47 => ?_)
      · have hnp : ¬payP X := inv_pay.1 (by rw [hb47] at hc47; simpa using hc47)
        obtain ⟨y1, y2⟩ := rdI_no hnp
        refine w_seq ?_
        refine w_seq ?_
        refine rg_text ?_
        refine x_val rfl rfl rfl (v_move rfl) ?_
        refine x_bool rfl rfl rfl (v_neq rfl rfl) ?_
        intro b49 hb49
        refine x_val rfl rfl rfl (v_move rfl) ?_
        refine x_if [] rfl rfl rfl rfl rfl (fun hg => by obtain ⟨hg0, _⟩ := hg; subst hg0; (try simp only [List.cons_append, List.nil_append, gvl_nil, gvl_t, gvl_f]); exact v_move rfl) ?_
        refine x_if [] rfl rfl rfl rfl rfl (fun hg => by obtain ⟨hg0, _⟩ := hg; subst hg0; (try simp only [List.cons_append, List.nil_append, gvl_nil, gvl_t, gvl_f]); exact v_len_slice Tryz.underlying28 rfl) ?_
        refine x_ifb [] rfl rfl rfl rfl rfl (fun hg => by obtain ⟨hg0, _⟩ := hg; subst hg0; (try simp only [List.cons_append, List.nil_append, gvl_nil, gvl_t, gvl_f]); exact v_neq rfl rfl) ?_
        intro b53 hb53
        refine x_bool rfl rfl rfl (v_or rfl rfl) ?_
        intro b54 hb54
        refine x_end ?_
        refine t_norm ?_
        refine w_cond rfl (fun hc54 => ?_) (fun hc54 => ?_)
        · exfalso
          rw [hb54, hb53, hb49, y1, y2] at hc54
          simp at hc54
        · simp only [hb54, hb53, hb49, decide_eq_true_eq, decide_eq_false_iff_not, Bool.and_eq_true, Bool.or_eq_true, Bool.and_eq_false_iff, Bool.or_eq_false_iff, Bool.not_eq_true', Bool.not_eq_false', ne_eq, Decidable.not_not] at hc54
          refine w_skip ?_
          refine t_norm ?_
          refine w_exit ?_
          refine t_exit ?_
          refine b_hit ?_
          refine t_norm ?_
          refine rg_text ?_
          refine x_val rfl rfl rfl (v_addi rfl rfl rfl (by first | omega | (dsimp only; omega))) ?_
          refine x_val rfl rfl rfl (v_move rfl) ?_
          refine x_end ?_
          exact l_norm (k + 1) (show k + 1 ≤ 2 by omega) (by omega) (by repeat (first | exact Sub.nil | refine Sub.cons rfl ?_)) (fun w1 h => h.less (.refl _) (fun q hq => by simp at hq ⊢; rcases hq with h | h; (· simp [h]); simp [h]))
      · have hp : payP X := by
          apply Classical.byContradiction; intro q
          have := inv_pay.2 q
          rw [hb47, this] at hc47; simp at hc47
        obtain ⟨y1, y2⟩ := rdI_at hp
        have hyl : (rdI (invR X)).1.length = X.length := by rw [y1, List.length_map]
        refine w_skip ?_
        refine t_norm ?_
        refine w_seq ?_
        refine w_seq ?_
        refine rg_text ?_
        refine x_val rfl rfl rfl (v_move rfl) ?_
        refine x_bool rfl rfl rfl (v_neq rfl rfl) ?_
        intro b56 hb56
        refine x_val rfl rfl rfl (v_move rfl) ?_
        refine x_if [] rfl rfl rfl rfl rfl (fun hg => by obtain ⟨hg0, _⟩ := hg; subst hg0; (try simp only [List.cons_append, List.nil_append, gvl_nil, gvl_t, gvl_f]); exact v_move rfl) ?_
        refine x_if [] rfl rfl rfl rfl rfl (fun hg => by obtain ⟨hg0, _⟩ := hg; subst hg0; (try simp only [List.cons_append, List.nil_append, gvl_nil, gvl_t, gvl_f]); exact v_len_slice Tryz.underlying28 rfl) ?_
        refine x_if [] rfl rfl rfl rfl rfl (fun hg => by obtain ⟨hg0, _⟩ := hg; subst hg0; (try simp only [List.cons_append, List.nil_append, gvl_nil, gvl_t, gvl_f]); exact v_move rfl) ?_
        refine x_if [] rfl rfl rfl rfl rfl (fun hg => by obtain ⟨hg0, _⟩ := hg; subst hg0; (try simp only [List.cons_append, List.nil_append, gvl_nil, gvl_t, gvl_f]); exact v_len_slice Tryz.underlying28 rfl) ?_
        refine x_ifb [] rfl rfl rfl rfl rfl (fun hg => by obtain ⟨hg0, _⟩ := hg; subst hg0; (try simp only [List.cons_append, List.nil_append, gvl_nil, gvl_t, gvl_f]); exact v_neq rfl rfl) ?_
        intro b62 hb62
        refine x_bool rfl rfl rfl (v_or rfl rfl) ?_
        intro b63 hb63
        refine x_end ?_
        refine t_norm ?_
        refine w_cond rfl (fun hc63 => ?_) (fun hc63 => ?_)
        · exfalso
          rw [hb63, hb62, hb56, hyl, y2] at hc63
          simp at hc63
        · simp only [hb63, hb62, hb56, decide_eq_true_eq, decide_eq_false_iff_not, Bool.and_eq_true, Bool.or_eq_true, Bool.and_eq_false_iff, Bool.or_eq_false_iff, Bool.not_eq_true', Bool.not_eq_false', ne_eq, Decidable.not_not] at hc63
          refine w_skip ?_
          refine t_norm ?_
          refine w_seq ?_
          refine rg_text ?_
          refine x_val rfl rfl rfl (v_move rfl) ?_
          refine x_val rfl rfl rfl (v_len_slice Tryz.underlying28 rfl) ?_
          refine x_val rfl rfl rfl (v_move rfl) ?_
          refine x_end ?_
          refine t_norm ?_
          refine w_block ?_
          refine w_loop (σ := Nat) (fun j => j ≤ X.length) (fun j => [(5, Value.bool true), (27, Value.slice (some ⟨p27, 0, none⟩) 2 2), (28, Value.int .i64 2), (29, Value.int .i64 (k : Nat)), (10, Value.slice A42 (rdI (invR X)).1.length c42), (64, Value.slice AX X.length cX), (65, Value.int .i64 (X.length : Nat)), (66, Value.int .i64 (j : Nat))]) (fun j => [(p27, Obj.cells [Value.slice A16 (cutP ls 20).length c16, rowV R1 ((cutP ls 20).length + 1)].toArray 28)]) (fun j => [(wb42, notOwn [(p27, Obj.cells [Value.slice A16 (cutP ls 20).length c16, rowV R1 ((cutP ls 20).length + 1)].toArray 28)]), (w0, notOwn [(p27, Obj.cells [Value.slice A16 (cutP ls 20).length c16, rowV R1 ((cutP ls 20).length + 1)].toArray 28)]), (w, fun _ => True)]) (fun j => X.length - j) (0) (Nat.zero_le _) (l_start (by repeat (first | exact Sub.nil | refine Sub.cons rfl ?_)) (fun _ h => h.less (.refl _) (fun q hq => by simp at hq ⊢; rcases hq with h | h | h; (· simp [h]); (· simp [h]); simp [h]))) ?_
          rintro j hj
          refine w_state ([(5, Value.bool true), (27, Value.slice (some ⟨p27, 0, none⟩) 2 2), (28, Value.int .i64 2), (29, Value.int .i64 (k : Nat)), (10, Value.slice A42 (rdI (invR X)).1.length c42), (64, Value.slice AX X.length cX), (65, Value.int .i64 (X.length : Nat)), (66, Value.int .i64 (j : Nat))]) ([(p27, Obj.cells [Value.slice A16 (cutP ls 20).length c16, rowV R1 ((cutP ls 20).length + 1)].toArray 28)]) ([(wb42, notOwn [(p27, Obj.cells [Value.slice A16 (cutP ls 20).length c16, rowV R1 ((cutP ls 20).length + 1)].toArray 28)]), (w0, notOwn [(p27, Obj.cells [Value.slice A16 (cutP ls 20).length c16, rowV R1 ((cutP ls 20).length + 1)].toArray 28)]), (w, fun _ => True)]) ?_
          refine w_seq ?_
          refine rg_text ?_
          refine x_bool rfl rfl rfl (v_lss rfl rfl) ?_
          intro b67 hb67
          refine x_end ?_
          refine t_norm ?_
          refine w_seq ?_
          refine w_cond rfl (fun hc67 => ?_) (fun hc67 => ?_)
          · simp only [hb67, decide_eq_true_eq, decide_eq_false_iff_not, Bool.and_eq_true, Bool.or_eq_true, Bool.and_eq_false_iff, Bool.or_eq_false_iff, Bool.not_eq_true', Bool.not_eq_false', ne_eq, Decidable.not_not] at hc67
            have hjl : j < X.length := by omega
            obtain ⟨xb, xo, hxA, hxD, hxc, _⟩ := ord_at hX hjl
            obtain ⟨yb, yo, hyA, hyD, hyc, _⟩ := ord_at hr42 (show j < (rdI (invR X)).1.length by omega)
            have hyj : (rdI (invR X)).1[j] = normI X[j] := by simp only [y1, List.getElem_map]
            obtain ⟨yy, hyy⟩ : ∃ y, (rdI (invR X)).1[j] = y := ⟨_, rfl⟩
            rw [hyy] at hyc hyj
            subst hyj
            refine w_skip ?_
            refine t_norm ?_
            refine w_seq ?_
            refine w_block ?_
            refine w_seq ?_
            refine rg_text ?_
            refine x_val rfl rfl rfl (v_move rfl) ?_
            refine x_val rfl rfl rfl (v_indexAddr Tryz.underlying28 sz25 (congrArg (fun A => some (Value.slice A X.length cX)) hxA) rfl (hjl) rfl) ?_
            refine x_val rfl rfl rfl (v_loadN (vs := X[j].cells) Tryz.underlying25 rfl sz25 rfl (fun i hi => at_ro (.tail _ (.head _)) hxD.2 (hxc i hi))) ?_
            refine x_alloc rfl rfl rfl zr25 ?_
            intro p13
            refine x_val rfl rfl rfl (v_assign rfl) ?_
            refine x_store0 [] rfl rfl rfl rfl sz25 rfl rfl ?_
            refine x_end ?_
            refine t_norm ?_
            refine w_seq ?_
            refine rg_draw 14 [(true, 0), (true, 1), (true, 2), (true, 3), (true, 4), (true, 5), (true, 6), (true, 7), (true, 8), (true, 9), (true, 10), (true, 11), (true, 12), (true, 13)] (by kernel_rfl) (by kernel_rfl) ?_
            refine x_val rfl rfl rfl (v_move rfl) ?_
            refine x_val rfl rfl rfl (v_move rfl) ?_
            refine x_val rfl rfl rfl (v_indexAddr Tryz.underlying28 sz25 (congrArg (fun A => some (Value.slice A (rdI (invR X)).1.length c42)) hyA) rfl (by omega) rfl) ?_
            refine x_val rfl rfl rfl (v_loadN (vs := (normI X[j]).cells) Tryz.underlying25 rfl sz25 rfl (fun i hi => at_ro (.head _) (fun q hq e => by have := hm42.lt hq; omega) (hyc i hi))) ?_
            refine x_val rfl rfl rfl (v_fieldAddr (off' := 0) Tryz.underlying25 rfl sz3 (by decide) rfl rfl) ?_
            refine x_val rfl rfl rfl (v_load Tryz.underlying3 rfl rfl (at_ownL (vs := X[j].cells) (.head _) rfl)) ?_
            refine x_val rfl rfl rfl (v_fieldAddr (off' := 2) Tryz.underlying25 rfl sz23 (by decide) rfl rfl) ?_
            refine x_val rfl rfl rfl (v_loadN (vs := [Value.int .i64 X[j].src, .int .i64 X[j].num]) Tryz.underlying23 rfl sz23 rfl (fun i hi => at_ownL (vs := X[j].cells) (.head _) (by match i, hi with | 0, _ => rfl | 1, _ => rfl))) ?_
            refine x_val rfl rfl rfl (v_fieldAddr (off' := 4) Tryz.underlying25 rfl sz3 (by decide) rfl rfl) ?_
            refine x_val rfl rfl rfl (v_load Tryz.underlying3 rfl rfl (at_ownL (vs := X[j].cells) (.head _) rfl)) ?_
            refine x_val rfl rfl rfl (v_fieldAddr (off' := 5) Tryz.underlying25 rfl sz3 (by decide) rfl rfl) ?_
            refine x_val rfl rfl rfl (v_load Tryz.underlying3 rfl rfl (at_ownL (vs := X[j].cells) (.head _) rfl)) ?_
            refine x_val (v := Value.agg (normI X[j]).cells.toArray) rfl rfl rfl (v_buildL (cs := (normI X[j]).cells) (places := [(0, 1), (1, 1), (2, 2), (4, 1), (5, 1), (6, 1), (7, 1), (8, 1)]) Tryz.underlying25 zr25 (by kernel_rfl) rfl rfl) ?_
            refine x_bool rfl rfl rfl (v_neA (by kernel_rfl) rfl rfl (fun w1 => eq25 w1 (normI X[j]) (normI X[j]))) ?_
            intro b84 hb84
            refine x_end ?_
            refine t_norm ?_
            refine w_cond rfl (fun hc84 => ?_) (fun hc84 => ?_)
            · exfalso
              rw [hb84] at hc84
              simp at hc84
            · simp only [hb84, decide_eq_true_eq, decide_eq_false_iff_not, Bool.and_eq_true, Bool.or_eq_true, Bool.and_eq_false_iff, Bool.or_eq_false_iff, Bool.not_eq_true', Bool.not_eq_false', ne_eq, Decidable.not_not] at hc84
              refine w_skip ?_
              refine b_norm ?_
              refine t_norm ?_
              refine rg_text ?_
              refine x_val rfl rfl rfl (v_addi rfl rfl rfl (by first | omega | (dsimp only; omega))) ?_
              refine x_val rfl rfl rfl (v_move rfl) ?_
              refine x_end ?_
              exact l_norm (j + 1) (show j + 1 ≤ X.length by omega) (by omega) (by repeat (first | exact Sub.nil | refine Sub.cons rfl ?_)) (fun w1 h => h.less (List.sublist_cons_self _ _) (fun _ h => h))
          · simp only [hb67, decide_eq_true_eq, decide_eq_false_iff_not, Bool.and_eq_true, Bool.or_eq_true, Bool.and_eq_false_iff, Bool.or_eq_false_iff, Bool.not_eq_true', Bool.not_eq_false', ne_eq, Decidable.not_not] at hc67
            refine w_exit ?_
            refine t_exit ?_
            refine t_exit ?_
            refine b_hit ?_
            refine b_norm ?_
            refine t_norm ?_
            refine rg_text ?_
            refine x_val rfl rfl rfl (v_addi rfl rfl rfl (by first | omega | (dsimp only; omega))) ?_
            refine x_val rfl rfl rfl (v_move rfl) ?_
            refine x_end ?_
            exact l_norm (k + 1) (show k + 1 ≤ 2 by omega) (by omega) (by repeat (first | exact Sub.nil | refine Sub.cons rfl ?_)) (fun w1 h => h.less (.refl _) (fun q hq => by simp at hq ⊢; rcases hq with h | h; (· simp [h]); simp [h]))
  · simp only [hb30, decide_eq_true_eq, decide_eq_false_iff_not, Bool.and_eq_true, Bool.or_eq_true, Bool.and_eq_false_iff, Bool.or_eq_false_iff, Bool.not_eq_true', Bool.not_eq_false', ne_eq, Decidable.not_not] at hc30
    refine w_exit ?_
    refine t_exit ?_
    refine t_exit ?_
    refine b_hit ?_
    refine t_norm ?_
    refine w_seq ?_
    refine rg_text ?_
    refine x_val rfl rfl rfl (v_move rfl) ?_
    refine x_val rfl rfl rfl (v_assign rfl) ?_
    refine x_end ?_
    refine t_norm ?_
    refine w_ret ?_
    refine ret1 rfl rfl (fun w' hm => ⟨?_, hm.base (by simp)⟩)
    rfl

end Go.Proofs.YtbamklefagghcaaGreatDoor

namespace Go.Proofs.YtbamklefagghcaaGreatDoor
open Go.RowKit Go.PK
set_option linter.unusedVariables false
set_option linter.unusedSimpArgs false
set_option maxHeartbeats 1000000 in
set_option maxRecDepth 100000 in
theorem c_RdOA {v : Value} {l : List Seg} {D : Nat → Prop} (w : World) (hl : sliceRd tySeg D w v l) (hbig : bigO l) (hL : LD w) (hC : 0 ≤ readP (totE l) ∧ itoaS (readP (totE l)) = totE l) :
    Calls Tryz.prog 18 #[v] w fun e w' => ∃ R, e = .returned (.tuple #[rowV R (rdI l).1.length, .int .i64 (rdI l).2]) ∧ Mem w' (rowO 25 R) [(w, fun _ => True)] ∧ RowT tyOrd (fun _ => False) w R (rdI l).1 := by
  obtain ⟨A, cp, rfl, hlc, hmx, _⟩ := id hl
  refine enter (vs := [Value.slice A l.length cp]) Tryz.func18 rfl Tryz.ntmps18 rfl ?_
  refine w_seq ?_
  refine rg_text ?_
  refine x_val rfl rfl rfl (v_assign rfl) ?_
  refine x_val rfl rfl rfl (v_assign rfl) ?_
  refine x_end ?_
  refine t_norm ?_
  refine w_seq ?_
  refine rg_text ?_
  refine x_val rfl rfl rfl (v_assign rfl) ?_
  refine x_end ?_
  refine t_norm ?_
  refine w_seq ?_
  refine w_seq ?_
  refine rg_text ?_
  refine x_val rfl rfl rfl (v_assign rfl) ?_
  refine x_end ?_
  refine t_norm ?_
  refine w_block ?_
  refine w_loop (σ := Nat × RowS) (fun x => x.1 ≤ min 1000 ((l.length - 3) / 4) ∧ RowT tyOrd (fun _ => False) w x.2 ((List.range x.1).map (lineE l))) (fun x => [(0, Value.slice A l.length cp), (4, rowV x.2 x.1), (5, Value.int .i64 ((4 * x.1 + 2 : Nat) : Int))]) (fun x => rowO 25 x.2) (fun x => [(w, fun _ => True)]) (fun x => min 1000 ((l.length - 3) / 4) - x.1) ((0, none)) (⟨Nat.zero_le _, RowT.nil⟩) (l_start (by repeat (first | exact Sub.nil | refine Sub.cons rfl ?_)) (fun _ h => h)) ?_
  rintro ⟨k, R⟩ ⟨hk, hT⟩
  refine w_state ([(0, Value.slice A l.length cp), (4, rowV R k), (5, Value.int .i64 ((4 * k + 2 : Nat) : Int))]) (rowO 25 R) ([(w, fun _ => True)]) ?_
  dsimp only at hk hT
  have hln : ((List.range k).map (lineE l)).length = k := by simp
  refine w_seq ?_
  refine w_seq ?_
  refine rg_text ?_
  refine x_val rfl rfl rfl (v_move rfl) ?_
  refine x_val rfl rfl rfl (v_addi (c := ((4 * k + 6 : Nat) : Int)) rfl rfl (by omega) (by omega)) ?_
  refine x_val rfl rfl rfl (v_move rfl) ?_
  refine x_val rfl rfl rfl (v_len_slice Tryz.underlying29 rfl) ?_
  refine x_bool rfl rfl rfl (v_lss rfl rfl) ?_
  intro b13 hb13
  refine x_val rfl rfl rfl (v_move rfl) ?_
  refine x_if [] rfl rfl rfl rfl rfl (fun hg => by obtain ⟨hg0, _⟩ := hg; subst hg0; (try simp only [List.cons_append, List.nil_append, gvl_nil, gvl_t, gvl_f]); exact v_move rfl) ?_
  refine x_if [] rfl rfl rfl rfl rfl (fun hg => by obtain ⟨hg0, _⟩ := hg; subst hg0; (try simp only [List.cons_append, List.nil_append, gvl_nil, gvl_t, gvl_f]); exact v_len_slice Tryz.underlying28 rfl) ?_
  refine x_ifb [] rfl rfl rfl rfl rfl (fun hg => by obtain ⟨hg0, _⟩ := hg; subst hg0; (try simp only [List.cons_append, List.nil_append, gvl_nil, gvl_t, gvl_f]); exact v_leq rfl rfl) ?_
  intro b17 hb17
  refine x_bool rfl rfl rfl (v_and rfl rfl) ?_
  intro b18 hb18
  refine x_end ?_
  refine t_norm ?_
  refine w_cond rfl (fun hc18 => ?_) (fun hc18 => ?_)
  · simp only [hb18, hb17, hb13, decide_eq_true_eq, decide_eq_false_iff_not, Bool.and_eq_true, Bool.or_eq_true, Bool.and_eq_false_iff, Bool.or_eq_false_iff, Bool.not_eq_true', Bool.not_eq_false', ne_eq, Decidable.not_not] at hc18
    have hkc : k < min 1000 ((l.length - 3) / 4) := by omega
    refine w_skip ?_
    refine t_norm ?_
    refine w_seq ?_
    refine w_block ?_
    refine rg_text ?_
    refine x_val rfl rfl rfl (v_move rfl) ?_
    refine x_val rfl rfl rfl (v_move rfl) ?_
    refine x_val rfl rfl rfl (v_move rfl) ?_
    refine x_callv rfl rfl rfl Tryz.func40 (by kernel_rfl) rfl (fun w1 hw1 => c_text (4 * k + 2) 2 0 w1 (hl.keep (Kept.later (hw1.base (by simp))))) ?_
    refine x_callv rfl rfl rfl Tryz.func41 (by kernel_rfl) rfl (fun w1 hw1 => c_erec (txt l (4 * k + 2) 2 0) w1 (txt_sz hbig (4 * k + 2) 2 0) (hL.later (hw1.base (by simp)))) ?_
    refine x_val rfl rfl rfl (v_move rfl) ?_
    refine x_val rfl rfl rfl (v_move rfl) ?_
    refine x_val rfl rfl rfl (v_addi (c := ((4 * k + 3 : Nat) : Int)) rfl rfl (by omega) (by omega)) ?_
    refine x_callv rfl rfl rfl Tryz.func40 (by kernel_rfl) rfl (fun w1 hw1 => c_text (4 * k + 3) 0 1 w1 (hl.keep (Kept.later (hw1.base (by simp))))) ?_
    refine x_callv rfl rfl rfl Tryz.func39 (by kernel_rfl) rfl (fun w1 hw1 => c_read (txt l (4 * k + 3) 0 1) w1 (Nat.le_trans (txt_sz hbig (4 * k + 3) 0 1) (by decide)) (hL.later (hw1.base (by simp)))) ?_
    refine x_val rfl rfl rfl (v_move rfl) ?_
    refine x_val rfl rfl rfl (v_move rfl) ?_
    refine x_val rfl rfl rfl (v_addi (c := ((4 * k + 4 : Nat) : Int)) rfl rfl (by omega) (by omega)) ?_
    refine x_callv rfl rfl rfl Tryz.func40 (by kernel_rfl) rfl (fun w1 hw1 => c_text (4 * k + 4) 0 1 w1 (hl.keep (Kept.later (hw1.base (by simp))))) ?_
    refine x_callv rfl rfl rfl Tryz.func39 (by kernel_rfl) rfl (fun w1 hw1 => c_read (txt l (4 * k + 4) 0 1) w1 (Nat.le_trans (txt_sz hbig (4 * k + 4) 0 1) (by decide)) (hL.later (hw1.base (by simp)))) ?_
    refine x_val rfl rfl rfl (v_move rfl) ?_
    refine x_val rfl rfl rfl (v_move rfl) ?_
    refine x_val rfl rfl rfl (v_addi (c := ((4 * k + 5 : Nat) : Int)) rfl rfl (by omega) (by omega)) ?_
    refine x_callv rfl rfl rfl Tryz.func40 (by kernel_rfl) rfl (fun w1 hw1 => c_text (4 * k + 5) 0 1 w1 (hl.keep (Kept.later (hw1.base (by simp))))) ?_
    refine x_callv rfl rfl rfl Tryz.func39 (by kernel_rfl) rfl (fun w1 hw1 => c_read (txt l (4 * k + 5) 0 1) w1 (Nat.le_trans (txt_sz hbig (4 * k + 5) 0 1) (by decide)) (hL.later (hw1.base (by simp)))) ?_
    refine x_val rfl rfl rfl (v_buildL (places := [(0, 1), (1, 1), (2, 2), (4, 1), (5, 1), (6, 1), (7, 1), (8, 1)]) Tryz.underlying25 zr25 (by kernel_rfl) rfl rfl) ?_
    refine x_buildSliceL (cs := (lineE l k).cells) rfl rfl rfl Tryz.underlying28 sz25 zr25 rfl rfl rfl ?_
    intro p42
    obtain ⟨css, hcl, hrow, hrd⟩ := hT
    rw [hln] at hcl hrow
    refine x_append (e := 25) [(p42, Obj.cells (lineE l k).cells.toArray 25)] (l2 := []) R (len := k) (xs := css.flatten) rfl rfl rfl rfl (by rw [List.append_nil]; rfl) hrow Tryz.underlying28 ap25 rfl rfl (m := 1) (news := (lineE l k).cells) (fun i hi => at_ownL (vs := (lineE l k).cells) (.head _) (by rw [Nat.zero_add]; exact List.getElem?_eq_getElem hi)) rfl (by simp only [maxLen]; omega) (by omega) ?_
    intro R' hR'
    refine x_val rfl rfl rfl (v_assign rfl) ?_
    refine x_end ?_
    refine b_norm ?_
    refine t_norm ?_
    refine rg_text ?_
    refine x_val rfl rfl rfl (v_move rfl) ?_
    refine x_val rfl rfl rfl (v_addi (c := ((4 * k + 6 : Nat) : Int)) rfl rfl (by omega) (by omega)) ?_
    refine x_val rfl rfl rfl (v_assign rfl) ?_
    refine x_end ?_
    rw [List.append_nil]
    exact l_norm (x := (k, R)) (μ := fun q : Nat × RowS => min 1000 ((l.length - 3) / 4) - q.1) (k + 1, R') ⟨by dsimp only; omega, by dsimp only; rw [range_snoc]; exact snocN hln hcl hrd hR' ⟨rfl, lineE_okA l k⟩⟩ (by simp only; omega) (by dsimp only; rw [show 4 * (k + 1) + 2 = 4 * k + 6 by omega]; repeat (first | exact Sub.nil | refine Sub.cons rfl ?_)) (fun w1 h => h.less (List.sublist_append_right _ _) (fun _ h => h))
  · simp only [hb18, hb17, hb13, decide_eq_true_eq, decide_eq_false_iff_not, Bool.and_eq_true, Bool.or_eq_true, Bool.and_eq_false_iff, Bool.or_eq_false_iff, Bool.not_eq_true', Bool.not_eq_false', ne_eq, Decidable.not_not] at hc18
    obtain rfl : k = min 1000 ((l.length - 3) / 4) := by omega
    refine w_exit ?_
    refine t_exit ?_
    refine t_exit ?_
    refine b_hit ?_
    refine t_norm ?_
    refine w_seq ?_
    refine rg_text ?_
    refine x_val rfl rfl rfl (v_move rfl) ?_
    refine x_call (R := fun v wa wb => ∃ A1 c1, v = .slice A1 (invR (linesE l)).length c1 ∧ sliceRd tySeg (fun b => wa.heap.size ≤ b) wb (.slice A1 (invR (linesE l)).length c1) (invR (linesE l)) ∧ A1.isNone = decide ((invR (linesE l)).length = 0)) rfl rfl rfl Tryz.func16 (by kernel_rfl) rfl (fun w1 hw1 => (c_Invoice (ls := linesE l) w1 (hT.any (D' := fun _ => True) (e := 25) hw1 (fun q hq => hq) (fun _ _ => trivial) (by simp)) (hL.later (hw1.base (by simp)))).mono fun e w2 ⟨v, h1, h2, h3, h4⟩ => ord_out h1 h2 h3 h4) ?_
    intro v45 wa45 wb45 hm45 hl45 hR45
    obtain ⟨A1, c1, rfl, hr45, hn45⟩ := hR45
    refine x_val rfl rfl rfl (v_assign rfl) ?_
    refine x_end ?_
    refine t_norm ?_
    refine w_seq ?_
    refine w_seq ?_
    refine rg_text ?_
    refine x_val rfl rfl rfl (v_move rfl) ?_
    refine x_bool rfl rfl rfl (v_sliceNil Tryz.underlying29 rfl) ?_
    intro b47 hb47
    refine x_val rfl rfl rfl (v_move rfl) ?_
    refine x_if [] rfl rfl rfl rfl rfl (fun hg => by obtain ⟨hg0, _⟩ := hg; subst hg0; (try simp only [List.cons_append, List.nil_append, gvl_nil, gvl_t, gvl_f]); exact v_move rfl) ?_
    refine x_if [] rfl rfl rfl rfl rfl (fun hg => by obtain ⟨hg0, _⟩ := hg; subst hg0; (try simp only [List.cons_append, List.nil_append, gvl_nil, gvl_t, gvl_f]); exact v_len_slice Tryz.underlying29 rfl) ?_
    refine x_if [] rfl rfl rfl rfl rfl (fun hg => by obtain ⟨hg0, _⟩ := hg; subst hg0; (try simp only [List.cons_append, List.nil_append, gvl_nil, gvl_t, gvl_f]); exact v_move rfl) ?_
    refine x_if [] rfl rfl rfl rfl rfl (fun hg => by obtain ⟨hg0, _⟩ := hg; subst hg0; (try simp only [List.cons_append, List.nil_append, gvl_nil, gvl_t, gvl_f]); exact v_len_slice Tryz.underlying29 rfl) ?_
    refine x_ifb [] rfl rfl rfl rfl rfl (fun hg => by obtain ⟨hg0, _⟩ := hg; subst hg0; (try simp only [List.cons_append, List.nil_append, gvl_nil, gvl_t, gvl_f]); exact v_neq rfl rfl) ?_
    intro b53 hb53
    refine x_bool rfl rfl rfl (v_or rfl rfl) ?_
    intro b54 hb54
    refine x_end ?_
    refine t_norm ?_
    refine w_cond rfl (fun hc54 => ?_) (fun hc54 => ?_)
    · have hno : ¬(payP (linesE l) ∧ (invR (linesE l)).length = l.length) := fun ⟨q1, q2⟩ => by
        rw [hb54, hb53, hb47, hn45, q2] at hc54
        have q3 := invR_len (linesE l)
        rw [if_pos q1, q2] at q3
        simp at hc54
        rw [hc54] at q3
        simp at q3
      refine w_seq ?_
      refine rg_text ?_
      refine x_val rfl rfl rfl (v_assign rfl) ?_
      refine x_val rfl rfl rfl (v_assign rfl) ?_
      refine x_end ?_
      refine t_norm ?_
      refine w_ret ?_
      refine t_ret ?_
      refine ret2 rfl rfl rfl (fun w' hm => ?_)
      rw [show rdI l = ([], 11) from by unfold rdI; rw [if_neg hno]]
      exact ⟨none, rfl, hm.less (List.nil_sublist _) (fun q hq => by simp at hq ⊢; simp [hq]), RowT.nil⟩
    · have hyes : (invR (linesE l)).length = l.length ∧ (invR (linesE l)).length ≠ 0 := by
        rw [hb54, hb53, hb47, hn45] at hc54
        simp only [Bool.or_eq_false_iff, decide_eq_false_iff_not, ne_eq, Decidable.not_not] at hc54
        exact ⟨by omega, hc54.1⟩
      obtain ⟨hle, hl0⟩ := hyes
      have hpay : payP (linesE l) := by
        apply Classical.byContradiction; intro q; apply hl0; rw [invR_len, if_neg q]
      obtain ⟨p1, p2, p3⟩ := id hpay
      have hl5 : l.length = 4 * (linesE l).length + 5 := by rw [← hle, invR_len, if_pos hpay]
      refine w_skip ?_
      refine t_norm ?_
      refine w_seq ?_
      refine rg_text ?_
      refine x_val rfl rfl rfl (v_move rfl) ?_
      refine x_val rfl rfl rfl (v_move rfl) ?_
      refine x_val rfl rfl rfl (v_len_slice Tryz.underlying29 rfl) ?_
      refine x_val rfl rfl rfl (v_subi (c := ((l.length - 2 : Nat) : Int)) rfl rfl (by omega) (by omega)) ?_
      refine x_callv rfl rfl rfl Tryz.func40 (by kernel_rfl) rfl (fun w1 hw1 => show Calls _ _ _ w1 (fun e w2 => e = .returned (.string (totE l)) ∧ Later w1 w2) from c_text (l.length - 2) 0 1 w1 (hl.keep (Kept.later (hw1.base (by simp))))) ?_
      refine x_val rfl rfl rfl (v_assign rfl) ?_
      refine x_end ?_
      refine t_norm ?_
      refine w_seq ?_
      refine w_seq ?_
      refine rg_text ?_
      refine x_val rfl rfl rfl (v_move rfl) ?_
      refine x_callv rfl rfl rfl Tryz.func39 (by kernel_rfl) rfl (fun w1 hw1 => c_read (totE l) w1 (Nat.le_trans (txt_sz hbig (l.length - 2) 0 1) (by decide)) (hL.later (hw1.base (by simp)))) ?_
      refine x_val rfl rfl rfl (v_assign rfl) ?_
      refine x_end ?_
      refine t_norm ?_
      refine w_block ?_
      refine w_seq ?_
      refine rg_text ?_
      refine x_val rfl rfl rfl (v_move rfl) ?_
      refine x_val rfl rfl rfl (v_move rfl) ?_
      refine x_callb rfl rfl rfl Tryz.func42 (by kernel_rfl) rfl (fun w1 hw1 => c_same (xs := invR (linesE l)) (ys := l) w1 (keep_new hr45 hw1 (by simp) hm45) (hl.keep (Kept.later (hw1.base (by simp))))) ?_
      intro b65 hb65
      refine x_val rfl rfl rfl (v_assign rfl) ?_
      refine x_end ?_
      refine t_norm ?_
      refine w_cond rfl (fun hc62 => ?_) (fun hc62 => ?_)
      · have hsame : invR (linesE l) = l := by rw [hb65] at hc62; simpa using hc62
        refine w_seq ?_
        refine rg_text ?_
        refine x_val rfl rfl rfl (v_move rfl) ?_
        refine x_val rfl rfl rfl (v_assign rfl) ?_
        refine x_val rfl rfl rfl (v_assign rfl) ?_
        refine x_end ?_
        refine t_norm ?_
        refine w_ret ?_
        refine b_ret ?_
        refine t_ret ?_
        refine ret2 rfl rfl rfl (fun w' hm => ?_)
        rw [show rdI l = (linesE l, 0) from by unfold rdI; rw [if_pos ⟨hpay, hle⟩, if_pos hsame]]
        have hcl : (linesE l).length = min 1000 ((l.length - 3) / 4) := by unfold linesE; rw [List.length_map, List.length_range]
        exact ⟨R, by show _ = Ending.returned (Value.tuple #[rowV R (linesE l).length, _]); rw [hcl], hm.less (.refl _) (fun q hq => by simp at hq ⊢; simp [hq]), hT⟩
      · have hdiff : ¬invR (linesE l) = l := by rw [hb65] at hc62; simpa using hc62
        refine w_seq ?_
        refine rg_text ?_
        refine x_val rfl rfl rfl (v_move rfl) ?_
        refine x_bool rfl rfl rfl (v_geq rfl rfl) ?_
        intro b69 hb69
        obtain rfl : b69 = true := by rw [hb69]; exact decide_eq_true hC.1
        refine x_val rfl rfl rfl (v_move rfl) ?_
        refine x_if [] rfl rfl rfl rfl rfl (fun hg => by obtain ⟨hg0, _⟩ := hg; (try simp only [List.cons_append, List.nil_append, gvl_nil, gvl_t, gvl_f]); exact v_move rfl) ?_
        refine x_call_if [] rfl rfl rfl rfl rfl Tryz.func32 (by kernel_rfl) (fun hg => by obtain ⟨hg0, _⟩ := hg; (try simp only [List.cons_append, List.nil_append, gvl_nil, gvl_t, gvl_f]); refine ⟨_, rfl, ?_⟩; exact fun w1 hw1 => c_number (readP (totE l)) w1 (readP_in _) (hL.later (hw1.base (by simp)))) ?_
        refine x_if [] rfl rfl rfl rfl rfl (fun hg => by obtain ⟨hg0, _⟩ := hg; (try simp only [List.cons_append, List.nil_append, gvl_nil, gvl_t, gvl_f]); exact v_move rfl) ?_
        refine x_ifb [] rfl rfl rfl rfl rfl (fun hg => by obtain ⟨hg0, _⟩ := hg; (try simp only [List.cons_append, List.nil_append, gvl_nil, gvl_t, gvl_f]); exact v_seql rfl rfl) ?_
        intro b74 hb74
        obtain rfl : b74 = true := by rw [hb74]; exact decide_eq_true hC.2
        refine x_bool rfl rfl rfl (v_and rfl rfl) ?_
        intro b75 hb75
        obtain rfl : b75 = true := hb75
        refine x_val rfl rfl rfl (v_move rfl) ?_
        refine x_if [] rfl rfl rfl rfl rfl (fun hg => by obtain ⟨hg0, _⟩ := hg; (try simp only [List.cons_append, List.nil_append, gvl_nil, gvl_t, gvl_f]); exact v_move rfl) ?_
        refine x_if [] rfl rfl rfl rfl rfl (fun hg => by obtain ⟨hg0, _⟩ := hg; (try simp only [List.cons_append, List.nil_append, gvl_nil, gvl_t, gvl_f]); exact v_move rfl) ?_
        refine x_call_g (R := fun v wa wb => sliceRd tySeg (fun b => wa.heap.size ≤ b) wb v (withX (linesE l) (totE l))) rfl rfl rfl rfl rfl Tryz.func44 (by kernel_rfl) rfl (fun w1 hw1 => (c_withTotalT (ls := linesE l) w1 (hT.any (D' := fun _ => True) (e := 25) hw1 (fun q hq => hq) (fun _ _ => trivial) (by simp)) (readP (totE l)) p3 (by omega) hC.1 (readP_in _) (hL.later (hw1.base (by simp))) hC.2).mono fun e w2 ⟨v, h1, h2, h3⟩ => ⟨_, h1, h2, h3⟩) ?_
        intro v79 wa79 wb79 hm79 hl79 hR79
        refine x_if [] rfl rfl rfl rfl rfl (fun hg => by obtain ⟨hg0, _⟩ := hg; (try simp only [List.cons_append, List.nil_append, gvl_nil, gvl_t, gvl_f]); exact v_move rfl) ?_
        refine x_call_ifb [] rfl rfl rfl rfl rfl Tryz.func42 (by kernel_rfl) (fun hg => by obtain ⟨hg0, _⟩ := hg; (try simp only [List.cons_append, List.nil_append, gvl_nil, gvl_t, gvl_f]); refine ⟨_, rfl, ?_⟩; exact fun w1 hw1 => c_same (xs := withX (linesE l) (totE l)) (ys := l) w1 (keep_new hR79 hw1 (by simp) hm79) (hl.keep (Kept.later (hw1.base (by simp))))) ?_
        intro b81 hb81
        refine x_bool rfl rfl rfl (v_and rfl rfl) ?_
        intro b82 hb82
        refine x_val rfl rfl rfl (v_assign rfl) ?_
        refine x_end ?_
        refine t_norm ?_
        refine w_cond rfl (fun hc67 => ?_) (fun hc67 => ?_)
        · have hw60 : withX (linesE l) (totE l) = l := by
            rw [hb82, hb81] at hc67
            simpa using hc67
          refine w_seq ?_
          refine rg_text ?_
          refine x_val rfl rfl rfl (v_assign rfl) ?_
          refine x_val rfl rfl rfl (v_assign rfl) ?_
          refine x_end ?_
          refine t_norm ?_
          refine w_ret ?_
          refine b_ret ?_
          refine t_ret ?_
          refine ret2 rfl rfl rfl (fun w' hm => ?_)
          rw [show rdI l = ([], 60) from by unfold rdI; rw [if_pos ⟨hpay, hle⟩, if_neg hdiff, if_pos ⟨hC.1, hC.2, hw60⟩]]
          exact ⟨none, rfl, hm.less (List.nil_sublist _) (fun q hq => by simp at hq ⊢; simp [hq]), RowT.nil⟩
        · have hw60 : ¬withX (linesE l) (totE l) = l := by
            rw [hb82, hb81] at hc67
            simpa using hc67
          refine w_skip ?_
          refine b_norm ?_
          refine t_norm ?_
          refine w_seq ?_
          refine rg_text ?_
          refine x_val rfl rfl rfl (v_assign rfl) ?_
          refine x_val rfl rfl rfl (v_assign rfl) ?_
          refine x_end ?_
          refine t_norm ?_
          refine w_ret ?_
          refine ret2 rfl rfl rfl (fun w' hm => ?_)
          rw [show rdI l = ([], 11) from by unfold rdI; rw [if_pos ⟨hpay, hle⟩, if_neg hdiff, if_neg (fun q => hw60 q.2.2)]]
          exact ⟨none, rfl, hm.less (List.nil_sublist _) (fun q hq => by simp at hq ⊢; simp [hq]), RowT.nil⟩
set_option maxHeartbeats 1000000 in
set_option maxRecDepth 100000 in
theorem c_RdOB {v : Value} {l : List Seg} {D : Nat → Prop} (w : World) (hl : sliceRd tySeg D w v l) (hbig : bigO l) (hL : LD w) (hC : ¬(0 ≤ readP (totE l) ∧ itoaS (readP (totE l)) = totE l)) :
    Calls Tryz.prog 18 #[v] w fun e w' => ∃ R, e = .returned (.tuple #[rowV R (rdI l).1.length, .int .i64 (rdI l).2]) ∧ Mem w' (rowO 25 R) [(w, fun _ => True)] ∧ RowT tyOrd (fun _ => False) w R (rdI l).1 := by
  obtain ⟨A, cp, rfl, hlc, hmx, _⟩ := id hl
  refine enter (vs := [Value.slice A l.length cp]) Tryz.func18 rfl Tryz.ntmps18 rfl ?_
  refine w_seq ?_
  refine rg_text ?_
  refine x_val rfl rfl rfl (v_assign rfl) ?_
  refine x_val rfl rfl rfl (v_assign rfl) ?_
  refine x_end ?_
  refine t_norm ?_
  refine w_seq ?_
  refine rg_text ?_
  refine x_val rfl rfl rfl (v_assign rfl) ?_
  refine x_end ?_
  refine t_norm ?_
  refine w_seq ?_
  refine w_seq ?_
  refine rg_text ?_
  refine x_val rfl rfl rfl (v_assign rfl) ?_
  refine x_end ?_
  refine t_norm ?_
  refine w_block ?_
  refine w_loop (σ := Nat × RowS) (fun x => x.1 ≤ min 1000 ((l.length - 3) / 4) ∧ RowT tyOrd (fun _ => False) w x.2 ((List.range x.1).map (lineE l))) (fun x => [(0, Value.slice A l.length cp), (4, rowV x.2 x.1), (5, Value.int .i64 ((4 * x.1 + 2 : Nat) : Int))]) (fun x => rowO 25 x.2) (fun x => [(w, fun _ => True)]) (fun x => min 1000 ((l.length - 3) / 4) - x.1) ((0, none)) (⟨Nat.zero_le _, RowT.nil⟩) (l_start (by repeat (first | exact Sub.nil | refine Sub.cons rfl ?_)) (fun _ h => h)) ?_
  rintro ⟨k, R⟩ ⟨hk, hT⟩
  refine w_state ([(0, Value.slice A l.length cp), (4, rowV R k), (5, Value.int .i64 ((4 * k + 2 : Nat) : Int))]) (rowO 25 R) ([(w, fun _ => True)]) ?_
  dsimp only at hk hT
  have hln : ((List.range k).map (lineE l)).length = k := by simp
  refine w_seq ?_
  refine w_seq ?_
  refine rg_text ?_
  refine x_val rfl rfl rfl (v_move rfl) ?_
  refine x_val rfl rfl rfl (v_addi (c := ((4 * k + 6 : Nat) : Int)) rfl rfl (by omega) (by omega)) ?_
  refine x_val rfl rfl rfl (v_move rfl) ?_
  refine x_val rfl rfl rfl (v_len_slice Tryz.underlying29 rfl) ?_
  refine x_bool rfl rfl rfl (v_lss rfl rfl) ?_
  intro b13 hb13
  refine x_val rfl rfl rfl (v_move rfl) ?_
  refine x_if [] rfl rfl rfl rfl rfl (fun hg => by obtain ⟨hg0, _⟩ := hg; subst hg0; (try simp only [List.cons_append, List.nil_append, gvl_nil, gvl_t, gvl_f]); exact v_move rfl) ?_
  refine x_if [] rfl rfl rfl rfl rfl (fun hg => by obtain ⟨hg0, _⟩ := hg; subst hg0; (try simp only [List.cons_append, List.nil_append, gvl_nil, gvl_t, gvl_f]); exact v_len_slice Tryz.underlying28 rfl) ?_
  refine x_ifb [] rfl rfl rfl rfl rfl (fun hg => by obtain ⟨hg0, _⟩ := hg; subst hg0; (try simp only [List.cons_append, List.nil_append, gvl_nil, gvl_t, gvl_f]); exact v_leq rfl rfl) ?_
  intro b17 hb17
  refine x_bool rfl rfl rfl (v_and rfl rfl) ?_
  intro b18 hb18
  refine x_end ?_
  refine t_norm ?_
  refine w_cond rfl (fun hc18 => ?_) (fun hc18 => ?_)
  · simp only [hb18, hb17, hb13, decide_eq_true_eq, decide_eq_false_iff_not, Bool.and_eq_true, Bool.or_eq_true, Bool.and_eq_false_iff, Bool.or_eq_false_iff, Bool.not_eq_true', Bool.not_eq_false', ne_eq, Decidable.not_not] at hc18
    have hkc : k < min 1000 ((l.length - 3) / 4) := by omega
    refine w_skip ?_
    refine t_norm ?_
    refine w_seq ?_
    refine w_block ?_
    refine rg_text ?_
    refine x_val rfl rfl rfl (v_move rfl) ?_
    refine x_val rfl rfl rfl (v_move rfl) ?_
    refine x_val rfl rfl rfl (v_move rfl) ?_
    refine x_callv rfl rfl rfl Tryz.func40 (by kernel_rfl) rfl (fun w1 hw1 => c_text (4 * k + 2) 2 0 w1 (hl.keep (Kept.later (hw1.base (by simp))))) ?_
    refine x_callv rfl rfl rfl Tryz.func41 (by kernel_rfl) rfl (fun w1 hw1 => c_erec (txt l (4 * k + 2) 2 0) w1 (txt_sz hbig (4 * k + 2) 2 0) (hL.later (hw1.base (by simp)))) ?_
    refine x_val rfl rfl rfl (v_move rfl) ?_
    refine x_val rfl rfl rfl (v_move rfl) ?_
    refine x_val rfl rfl rfl (v_addi (c := ((4 * k + 3 : Nat) : Int)) rfl rfl (by omega) (by omega)) ?_
    refine x_callv rfl rfl rfl Tryz.func40 (by kernel_rfl) rfl (fun w1 hw1 => c_text (4 * k + 3) 0 1 w1 (hl.keep (Kept.later (hw1.base (by simp))))) ?_
    refine x_callv rfl rfl rfl Tryz.func39 (by kernel_rfl) rfl (fun w1 hw1 => c_read (txt l (4 * k + 3) 0 1) w1 (Nat.le_trans (txt_sz hbig (4 * k + 3) 0 1) (by decide)) (hL.later (hw1.base (by simp)))) ?_
    refine x_val rfl rfl rfl (v_move rfl) ?_
    refine x_val rfl rfl rfl (v_move rfl) ?_
    refine x_val rfl rfl rfl (v_addi (c := ((4 * k + 4 : Nat) : Int)) rfl rfl (by omega) (by omega)) ?_
    refine x_callv rfl rfl rfl Tryz.func40 (by kernel_rfl) rfl (fun w1 hw1 => c_text (4 * k + 4) 0 1 w1 (hl.keep (Kept.later (hw1.base (by simp))))) ?_
    refine x_callv rfl rfl rfl Tryz.func39 (by kernel_rfl) rfl (fun w1 hw1 => c_read (txt l (4 * k + 4) 0 1) w1 (Nat.le_trans (txt_sz hbig (4 * k + 4) 0 1) (by decide)) (hL.later (hw1.base (by simp)))) ?_
    refine x_val rfl rfl rfl (v_move rfl) ?_
    refine x_val rfl rfl rfl (v_move rfl) ?_
    refine x_val rfl rfl rfl (v_addi (c := ((4 * k + 5 : Nat) : Int)) rfl rfl (by omega) (by omega)) ?_
    refine x_callv rfl rfl rfl Tryz.func40 (by kernel_rfl) rfl (fun w1 hw1 => c_text (4 * k + 5) 0 1 w1 (hl.keep (Kept.later (hw1.base (by simp))))) ?_
    refine x_callv rfl rfl rfl Tryz.func39 (by kernel_rfl) rfl (fun w1 hw1 => c_read (txt l (4 * k + 5) 0 1) w1 (Nat.le_trans (txt_sz hbig (4 * k + 5) 0 1) (by decide)) (hL.later (hw1.base (by simp)))) ?_
    refine x_val rfl rfl rfl (v_buildL (places := [(0, 1), (1, 1), (2, 2), (4, 1), (5, 1), (6, 1), (7, 1), (8, 1)]) Tryz.underlying25 zr25 (by kernel_rfl) rfl rfl) ?_
    refine x_buildSliceL (cs := (lineE l k).cells) rfl rfl rfl Tryz.underlying28 sz25 zr25 rfl rfl rfl ?_
    intro p42
    obtain ⟨css, hcl, hrow, hrd⟩ := hT
    rw [hln] at hcl hrow
    refine x_append (e := 25) [(p42, Obj.cells (lineE l k).cells.toArray 25)] (l2 := []) R (len := k) (xs := css.flatten) rfl rfl rfl rfl (by rw [List.append_nil]; rfl) hrow Tryz.underlying28 ap25 rfl rfl (m := 1) (news := (lineE l k).cells) (fun i hi => at_ownL (vs := (lineE l k).cells) (.head _) (by rw [Nat.zero_add]; exact List.getElem?_eq_getElem hi)) rfl (by simp only [maxLen]; omega) (by omega) ?_
    intro R' hR'
    refine x_val rfl rfl rfl (v_assign rfl) ?_
    refine x_end ?_
    refine b_norm ?_
    refine t_norm ?_
    refine rg_text ?_
    refine x_val rfl rfl rfl (v_move rfl) ?_
    refine x_val rfl rfl rfl (v_addi (c := ((4 * k + 6 : Nat) : Int)) rfl rfl (by omega) (by omega)) ?_
    refine x_val rfl rfl rfl (v_assign rfl) ?_
    refine x_end ?_
    rw [List.append_nil]
    exact l_norm (x := (k, R)) (μ := fun q : Nat × RowS => min 1000 ((l.length - 3) / 4) - q.1) (k + 1, R') ⟨by dsimp only; omega, by dsimp only; rw [range_snoc]; exact snocN hln hcl hrd hR' ⟨rfl, lineE_okA l k⟩⟩ (by simp only; omega) (by dsimp only; rw [show 4 * (k + 1) + 2 = 4 * k + 6 by omega]; repeat (first | exact Sub.nil | refine Sub.cons rfl ?_)) (fun w1 h => h.less (List.sublist_append_right _ _) (fun _ h => h))
  · simp only [hb18, hb17, hb13, decide_eq_true_eq, decide_eq_false_iff_not, Bool.and_eq_true, Bool.or_eq_true, Bool.and_eq_false_iff, Bool.or_eq_false_iff, Bool.not_eq_true', Bool.not_eq_false', ne_eq, Decidable.not_not] at hc18
    obtain rfl : k = min 1000 ((l.length - 3) / 4) := by omega
    refine w_exit ?_
    refine t_exit ?_
    refine t_exit ?_
    refine b_hit ?_
    refine t_norm ?_
    refine w_seq ?_
    refine rg_text ?_
    refine x_val rfl rfl rfl (v_move rfl) ?_
    refine x_call (R := fun v wa wb => ∃ A1 c1, v = .slice A1 (invR (linesE l)).length c1 ∧ sliceRd tySeg (fun b => wa.heap.size ≤ b) wb (.slice A1 (invR (linesE l)).length c1) (invR (linesE l)) ∧ A1.isNone = decide ((invR (linesE l)).length = 0)) rfl rfl rfl Tryz.func16 (by kernel_rfl) rfl (fun w1 hw1 => (c_Invoice (ls := linesE l) w1 (hT.any (D' := fun _ => True) (e := 25) hw1 (fun q hq => hq) (fun _ _ => trivial) (by simp)) (hL.later (hw1.base (by simp)))).mono fun e w2 ⟨v, h1, h2, h3, h4⟩ => ord_out h1 h2 h3 h4) ?_
    intro v45 wa45 wb45 hm45 hl45 hR45
    obtain ⟨A1, c1, rfl, hr45, hn45⟩ := hR45
    refine x_val rfl rfl rfl (v_assign rfl) ?_
    refine x_end ?_
    refine t_norm ?_
    refine w_seq ?_
    refine w_seq ?_
    refine rg_text ?_
    refine x_val rfl rfl rfl (v_move rfl) ?_
    refine x_bool rfl rfl rfl (v_sliceNil Tryz.underlying29 rfl) ?_
    intro b47 hb47
    refine x_val rfl rfl rfl (v_move rfl) ?_
    refine x_if [] rfl rfl rfl rfl rfl (fun hg => by obtain ⟨hg0, _⟩ := hg; subst hg0; (try simp only [List.cons_append, List.nil_append, gvl_nil, gvl_t, gvl_f]); exact v_move rfl) ?_
    refine x_if [] rfl rfl rfl rfl rfl (fun hg => by obtain ⟨hg0, _⟩ := hg; subst hg0; (try simp only [List.cons_append, List.nil_append, gvl_nil, gvl_t, gvl_f]); exact v_len_slice Tryz.underlying29 rfl) ?_
    refine x_if [] rfl rfl rfl rfl rfl (fun hg => by obtain ⟨hg0, _⟩ := hg; subst hg0; (try simp only [List.cons_append, List.nil_append, gvl_nil, gvl_t, gvl_f]); exact v_move rfl) ?_
    refine x_if [] rfl rfl rfl rfl rfl (fun hg => by obtain ⟨hg0, _⟩ := hg; subst hg0; (try simp only [List.cons_append, List.nil_append, gvl_nil, gvl_t, gvl_f]); exact v_len_slice Tryz.underlying29 rfl) ?_
    refine x_ifb [] rfl rfl rfl rfl rfl (fun hg => by obtain ⟨hg0, _⟩ := hg; subst hg0; (try simp only [List.cons_append, List.nil_append, gvl_nil, gvl_t, gvl_f]); exact v_neq rfl rfl) ?_
    intro b53 hb53
    refine x_bool rfl rfl rfl (v_or rfl rfl) ?_
    intro b54 hb54
    refine x_end ?_
    refine t_norm ?_
    refine w_cond rfl (fun hc54 => ?_) (fun hc54 => ?_)
    · have hno : ¬(payP (linesE l) ∧ (invR (linesE l)).length = l.length) := fun ⟨q1, q2⟩ => by
        rw [hb54, hb53, hb47, hn45, q2] at hc54
        have q3 := invR_len (linesE l)
        rw [if_pos q1, q2] at q3
        simp at hc54
        rw [hc54] at q3
        simp at q3
      refine w_seq ?_
      refine rg_text ?_
      refine x_val rfl rfl rfl (v_assign rfl) ?_
      refine x_val rfl rfl rfl (v_assign rfl) ?_
      refine x_end ?_
      refine t_norm ?_
      refine w_ret ?_
      refine t_ret ?_
      refine ret2 rfl rfl rfl (fun w' hm => ?_)
      rw [show rdI l = ([], 11) from by unfold rdI; rw [if_neg hno]]
      exact ⟨none, rfl, hm.less (List.nil_sublist _) (fun q hq => by simp at hq ⊢; simp [hq]), RowT.nil⟩
    · have hyes : (invR (linesE l)).length = l.length ∧ (invR (linesE l)).length ≠ 0 := by
        rw [hb54, hb53, hb47, hn45] at hc54
        simp only [Bool.or_eq_false_iff, decide_eq_false_iff_not, ne_eq, Decidable.not_not] at hc54
        exact ⟨by omega, hc54.1⟩
      obtain ⟨hle, hl0⟩ := hyes
      have hpay : payP (linesE l) := by
        apply Classical.byContradiction; intro q; apply hl0; rw [invR_len, if_neg q]
      obtain ⟨p1, p2, p3⟩ := id hpay
      have hl5 : l.length = 4 * (linesE l).length + 5 := by rw [← hle, invR_len, if_pos hpay]
      refine w_skip ?_
      refine t_norm ?_
      refine w_seq ?_
      refine rg_text ?_
      refine x_val rfl rfl rfl (v_move rfl) ?_
      refine x_val rfl rfl rfl (v_move rfl) ?_
      refine x_val rfl rfl rfl (v_len_slice Tryz.underlying29 rfl) ?_
      refine x_val rfl rfl rfl (v_subi (c := ((l.length - 2 : Nat) : Int)) rfl rfl (by omega) (by omega)) ?_
      refine x_callv rfl rfl rfl Tryz.func40 (by kernel_rfl) rfl (fun w1 hw1 => show Calls _ _ _ w1 (fun e w2 => e = .returned (.string (totE l)) ∧ Later w1 w2) from c_text (l.length - 2) 0 1 w1 (hl.keep (Kept.later (hw1.base (by simp))))) ?_
      refine x_val rfl rfl rfl (v_assign rfl) ?_
      refine x_end ?_
      refine t_norm ?_
      refine w_seq ?_
      refine w_seq ?_
      refine rg_text ?_
      refine x_val rfl rfl rfl (v_move rfl) ?_
      refine x_callv rfl rfl rfl Tryz.func39 (by kernel_rfl) rfl (fun w1 hw1 => c_read (totE l) w1 (Nat.le_trans (txt_sz hbig (l.length - 2) 0 1) (by decide)) (hL.later (hw1.base (by simp)))) ?_
      refine x_val rfl rfl rfl (v_assign rfl) ?_
      refine x_end ?_
      refine t_norm ?_
      refine w_block ?_
      refine w_seq ?_
      refine rg_text ?_
      refine x_val rfl rfl rfl (v_move rfl) ?_
      refine x_val rfl rfl rfl (v_move rfl) ?_
      refine x_callb rfl rfl rfl Tryz.func42 (by kernel_rfl) rfl (fun w1 hw1 => c_same (xs := invR (linesE l)) (ys := l) w1 (keep_new hr45 hw1 (by simp) hm45) (hl.keep (Kept.later (hw1.base (by simp))))) ?_
      intro b65 hb65
      refine x_val rfl rfl rfl (v_assign rfl) ?_
      refine x_end ?_
      refine t_norm ?_
      refine w_cond rfl (fun hc62 => ?_) (fun hc62 => ?_)
      · have hsame : invR (linesE l) = l := by rw [hb65] at hc62; simpa using hc62
        refine w_seq ?_
        refine rg_text ?_
        refine x_val rfl rfl rfl (v_move rfl) ?_
        refine x_val rfl rfl rfl (v_assign rfl) ?_
        refine x_val rfl rfl rfl (v_assign rfl) ?_
        refine x_end ?_
        refine t_norm ?_
        refine w_ret ?_
        refine b_ret ?_
        refine t_ret ?_
        refine ret2 rfl rfl rfl (fun w' hm => ?_)
        rw [show rdI l = (linesE l, 0) from by unfold rdI; rw [if_pos ⟨hpay, hle⟩, if_pos hsame]]
        have hcl : (linesE l).length = min 1000 ((l.length - 3) / 4) := by unfold linesE; rw [List.length_map, List.length_range]
        exact ⟨R, by show _ = Ending.returned (Value.tuple #[rowV R (linesE l).length, _]); rw [hcl], hm.less (.refl _) (fun q hq => by simp at hq ⊢; simp [hq]), hT⟩
      · have hdiff : ¬invR (linesE l) = l := by rw [hb65] at hc62; simpa using hc62
        refine w_seq ?_
        refine rg_text ?_
        refine x_val rfl rfl rfl (v_move rfl) ?_
        refine x_bool rfl rfl rfl (v_geq rfl rfl) ?_
        intro b69 hb69
        refine x_val rfl rfl rfl (v_move rfl) ?_
        refine x_if [] rfl rfl rfl rfl rfl (fun hg => by obtain ⟨hg0, _⟩ := hg; subst hg0; (try simp only [List.cons_append, List.nil_append, gvl_nil, gvl_t, gvl_f]); exact v_move rfl) ?_
        refine x_call_if [] rfl rfl rfl rfl rfl Tryz.func32 (by kernel_rfl) (fun hg => by obtain ⟨hg0, _⟩ := hg; subst hg0; (try simp only [List.cons_append, List.nil_append, gvl_nil, gvl_t, gvl_f]); refine ⟨_, rfl, ?_⟩; exact fun w1 hw1 => c_number (readP (totE l)) w1 (readP_in _) (hL.later (hw1.base (by simp)))) ?_
        refine x_if [] rfl rfl rfl rfl rfl (fun hg => by obtain ⟨hg0, _⟩ := hg; subst hg0; (try simp only [List.cons_append, List.nil_append, gvl_nil, gvl_t, gvl_f]); exact v_move rfl) ?_
        refine x_ifb [] rfl rfl rfl rfl rfl (fun hg => by obtain ⟨hg0, _⟩ := hg; subst hg0; (try simp only [List.cons_append, List.nil_append, gvl_nil, gvl_t, gvl_f]); exact v_seql rfl rfl) ?_
        intro b74 hb74
        refine x_bool rfl rfl rfl (v_and rfl rfl) ?_
        intro b75 hb75
        obtain rfl : b75 = false := by
              rw [hb75, hb74, hb69]
              rw [← Bool.not_eq_true]
              simpa using hC
        refine x_val rfl rfl rfl (v_move rfl) ?_
        refine x_no rfl rfl rfl rfl rfl ?_
        refine x_no rfl rfl rfl rfl rfl ?_
        refine x_no rfl rfl rfl rfl rfl ?_
        refine x_no rfl rfl rfl rfl rfl ?_
        refine x_no rfl rfl rfl rfl rfl ?_
        refine x_val (v := .bool false) rfl rfl rfl (v_pick (b := false) rfl rfl) ?_
        refine x_val rfl rfl rfl (v_assign rfl) ?_
        refine x_end ?_
        refine t_norm ?_
        refine w_cond rfl (fun hc67 => ?_) (fun hc67 => ?_)
        · cases hc67
        · skip
          refine w_skip ?_
          refine b_norm ?_
          refine t_norm ?_
          refine w_seq ?_
          refine rg_text ?_
          refine x_val rfl rfl rfl (v_assign rfl) ?_
          refine x_val rfl rfl rfl (v_assign rfl) ?_
          refine x_end ?_
          refine t_norm ?_
          refine w_ret ?_
          refine ret2 rfl rfl rfl (fun w' hm => ?_)
          rw [show rdI l = ([], 11) from by unfold rdI; rw [if_pos ⟨hpay, hle⟩, if_neg hdiff, if_neg (fun q => hC ⟨q.1, q.2.1⟩)]]
          exact ⟨none, rfl, hm.less (List.nil_sublist _) (fun q hq => by simp at hq ⊢; simp [hq]), RowT.nil⟩
theorem c_RdO {v : Value} {l : List Seg} {D : Nat → Prop} (w : World) (hl : sliceRd tySeg D w v l) (hbig : bigO l) (hL : LD w) : Calls Tryz.prog 18 #[v] w fun e w' => ∃ R, e = .returned (.tuple #[rowV R (rdI l).1.length, .int .i64 (rdI l).2]) ∧ Mem w' (rowO 25 R) [(w, fun _ => True)] ∧ RowT tyOrd (fun _ => False) w R (rdI l).1 := by
  by_cases hC : 0 ≤ readP (totE l) ∧ itoaS (readP (totE l)) = totE l
  · exact c_RdOA w hl hbig hL hC
  · exact c_RdOB w hl hbig hL hC
set_option maxHeartbeats 1000000 in
set_option maxRecDepth 100000 in
theorem d7 {v : Value} {ls : List PK.Ord} {D : Nat → Prop} (w : World) (hls : sliceRd tyOrd D w v ls) {u z : Value} {tags texts : List ByteArray} {D1 D2 : Nat → Prop} (ht : sliceRd tyStr D1 w u tags) (hx : sliceRd tyStr D2 w z texts) (hs1 : ∀ t ∈ tags, t.size ≤ 1048576) (hs2 : ∀ t ∈ texts, t.size ≤ 1048576) (hL : LD w) :
    Calls Tryz.prog 7 #[v, u, z] w fun e w' => e = .returned (.bool (true)) ∧ Later w w' := by
  obtain ⟨A, cp, rfl, hlc, hmx, _⟩ := id hls
  refine enter (vs := [Value.slice A ls.length cp, u, z]) Tryz.func7 rfl Tryz.ntmps7 rfl ?_
  refine w_seq ?_
  refine rg_text ?_
  refine x_val rfl rfl rfl (v_assign rfl) ?_
  refine x_end ?_
  refine t_norm ?_
  refine w_seq ?_
  refine rg_text ?_
  refine x_callb rfl rfl rfl Tryz.func9 (by kernel_rfl) rfl (fun w1 hw1 => c_sanity w1 (hL.later (hw1.base (by simp)))) ?_
  intro b20 hb20
  obtain rfl : b20 = true := hb20
  refine x_val rfl rfl rfl (v_assign rfl) ?_
  refine x_end ?_
  refine t_norm ?_
  refine w_seq ?_
  refine rg_text ?_
  refine x_val rfl rfl rfl (v_move rfl) ?_
  refine x_call (R := fun v wa wb => ∃ A1 c1, v = .slice A1 (cutP ls 10).length c1 ∧ sliceRd tyOrd (fun b => wa.heap.size ≤ b) wb (.slice A1 (cutP ls 10).length c1) (cutP ls 10)) rfl rfl rfl Tryz.func15 (by kernel_rfl) rfl (fun w1 hw1 => (c_cut w1 (hls.keep (Kept.later (hw1.base (by simp)))) 10 (by decide)).mono fun e w2 ⟨v, h1, h2, h3⟩ => ord_sl h1 h2 h3) ?_
  intro v22 wa22 wb22 hm22 hl22 hR22
  obtain ⟨A22, c22, rfl, hr22⟩ := hR22
  refine x_val rfl rfl rfl (v_move rfl) ?_
  refine x_call (R := fun v wa wb => ∃ A1 c1, v = .slice A1 (cutP ls 10).length c1 ∧ sliceRd tyOrd (fun b => wa.heap.size ≤ b) wb (.slice A1 (cutP ls 10).length c1) (cutP ls 10)) rfl rfl rfl Tryz.func15 (by kernel_rfl) rfl (fun w1 hw1 => (c_cut w1 (hls.keep (Kept.later (hw1.base (by simp)))) 10 (by decide)).mono fun e w2 ⟨v, h1, h2, h3⟩ => ord_sl h1 h2 h3) ?_
  intro v24 wa24 wb24 hm24 hl24 hR24
  obtain ⟨A24, c24, rfl, hr24⟩ := hR24
  refine x_val rfl rfl rfl (v_assign rfl) ?_
  refine x_val rfl rfl rfl (v_assign rfl) ?_
  refine x_end ?_
  refine t_norm ?_
  refine w_seq ?_
  refine rg_text ?_
  refine x_val rfl rfl rfl (v_move rfl) ?_
  refine x_val rfl rfl rfl (v_move rfl) ?_
  refine x_buildSliceL (cs := [Value.int .u8 1, .int .u8 2, .int .u8 4]) rfl rfl rfl Tryz.underlying56 sz5 zr5 rfl rfl rfl ?_
  intro p27
  refine x_buildSliceL (cs := [Value.int .u8 8, .int .u8 9]) rfl rfl rfl Tryz.underlying56 sz5 zr5 rfl rfl rfl ?_
  intro p28
  refine x_buildSliceL (cs := [Value.slice (some ⟨p27, 0, none⟩) 3 3, .slice (some ⟨p28, 0, none⟩) 2 2]) rfl rfl rfl Tryz.underlying57 sz56 zr56 rfl rfl rfl ?_
  intro p29
  refine x_call (R := fun v wa wb => sliceRd tySeg (fun b => wa.heap.size ≤ b) wb v (segsP tags texts [[1, 2, 4], [8, 9]])) rfl rfl rfl Tryz.func24 (by kernel_rfl) rfl (fun w1 hw1 => (c_segments w1 (ht.keep (Kept.later (hw1.base (by simp)))) (hx.keep (Kept.later (hw1.base (by simp)))) (lits_own (T := tySlice tyB) (D := fun _ => True) (e := 56) (b := p29) [[Value.slice (some ⟨p27, 0, none⟩) 3 3], [.slice (some ⟨p28, 0, none⟩) 2 2]] (xs := [[1, 2, 4], [8, 9]]) hw1 (by repeat (first | exact List.Mem.head _ | apply List.Mem.tail)) rfl (by simp) trivial ⟨⟨_, rfl, (lits_own (T := tyB) (D := fun _ => True) (e := 5) (b := p27) [[Value.int .u8 1], [Value.int .u8 2], [Value.int .u8 4]] (xs := [1, 2, 4]) hw1 (by repeat (first | exact List.Mem.head _ | apply List.Mem.tail)) rfl (by simp) trivial ⟨rfl, rfl, rfl, trivial⟩)⟩, ⟨_, rfl, (lits_own (T := tyB) (D := fun _ => True) (e := 5) (b := p28) [[Value.int .u8 8], [Value.int .u8 9]] (xs := [8, 9]) hw1 (by repeat (first | exact List.Mem.head _ | apply List.Mem.tail)) rfl (by simp) trivial ⟨rfl, rfl, trivial⟩)⟩, trivial⟩)).mono fun e w2 ⟨v, h1, h2, h3⟩ => ⟨_, h1, h2, h3⟩) ?_
  intro v30 wa30 wb30 hm30 hl30 hR30
  refine x_val rfl rfl rfl (v_move rfl) ?_
  refine x_val rfl rfl rfl (v_move rfl) ?_
  refine x_buildSliceL (cs := [Value.int .u8 1, .int .u8 2, .int .u8 4]) rfl rfl rfl Tryz.underlying56 sz5 zr5 rfl rfl rfl ?_
  intro p33
  refine x_buildSliceL (cs := [Value.int .u8 8, .int .u8 9]) rfl rfl rfl Tryz.underlying56 sz5 zr5 rfl rfl rfl ?_
  intro p34
  refine x_buildSliceL (cs := [Value.slice (some ⟨p33, 0, none⟩) 3 3, .slice (some ⟨p34, 0, none⟩) 2 2]) rfl rfl rfl Tryz.underlying57 sz56 zr56 rfl rfl rfl ?_
  intro p35
  refine x_call (R := fun v wa wb => sliceRd tySeg (fun b => wa.heap.size ≤ b) wb v (segsP tags texts [[1, 2, 4], [8, 9]])) rfl rfl rfl Tryz.func24 (by kernel_rfl) rfl (fun w1 hw1 => (c_segments w1 (ht.keep (Kept.later (hw1.base (by simp)))) (hx.keep (Kept.later (hw1.base (by simp)))) (lits_own (T := tySlice tyB) (D := fun _ => True) (e := 56) (b := p35) [[Value.slice (some ⟨p33, 0, none⟩) 3 3], [.slice (some ⟨p34, 0, none⟩) 2 2]] (xs := [[1, 2, 4], [8, 9]]) hw1 (by repeat (first | exact List.Mem.head _ | apply List.Mem.tail)) rfl (by simp) trivial ⟨⟨_, rfl, (lits_own (T := tyB) (D := fun _ => True) (e := 5) (b := p33) [[Value.int .u8 1], [Value.int .u8 2], [Value.int .u8 4]] (xs := [1, 2, 4]) hw1 (by repeat (first | exact List.Mem.head _ | apply List.Mem.tail)) rfl (by simp) trivial ⟨rfl, rfl, rfl, trivial⟩)⟩, ⟨_, rfl, (lits_own (T := tyB) (D := fun _ => True) (e := 5) (b := p34) [[Value.int .u8 8], [Value.int .u8 9]] (xs := [8, 9]) hw1 (by repeat (first | exact List.Mem.head _ | apply List.Mem.tail)) rfl (by simp) trivial ⟨rfl, rfl, trivial⟩)⟩, trivial⟩)).mono fun e w2 ⟨v, h1, h2, h3⟩ => ⟨_, h1, h2, h3⟩) ?_
  intro v36 wa36 wb36 hm36 hl36 hR36
  refine x_val rfl rfl rfl (v_assign rfl) ?_
  refine x_val rfl rfl rfl (v_assign rfl) ?_
  refine x_end ?_
  refine t_norm ?_
  refine w_seq ?_
  refine rg_text ?_
  refine x_val rfl rfl rfl (v_move rfl) ?_
  refine x_call (R := fun v wa wb => ∃ A1 c1, v = .slice A1 (invR (cutP ls 10)).length c1 ∧ sliceRd tySeg (fun b => wa.heap.size ≤ b) wb (.slice A1 (invR (cutP ls 10)).length c1) (invR (cutP ls 10))) rfl rfl rfl Tryz.func16 (by kernel_rfl) rfl (fun w1 hw1 => (c_Invoice (ls := (cutP ls 10)) w1 (keep_new hr22 hw1 (by simp) hm22) (hL.later (hw1.base (by simp)))).mono fun e w2 ⟨v, h1, h2, h3, _⟩ => by obtain ⟨A1, c1, rfl, _⟩ := id h3; exact ⟨_, h1, h2, A1, c1, rfl, h3⟩) ?_
  intro v38 wa38 wb38 hm38 hl38 hR38
  obtain ⟨A38, c38, rfl, hr38⟩ := hR38
  refine x_val rfl rfl rfl (v_assign rfl) ?_
  refine x_end ?_
  refine t_norm ?_
  refine w_seq ?_
  refine rg_text ?_
  refine x_val rfl rfl rfl (v_move rfl) ?_
  refine x_own (τ := RowS) (fun R => .tuple #[rowV R (rdI (invR (cutP ls 10))).1.length, .int .i64 (rdI (invR (cutP ls 10))).2]) (fun R => RowT tyOrd (fun _ => False) w R (rdI (invR (cutP ls 10))).1) (fun R => rowO 25 R) rfl rfl rfl Tryz.func18 (by kernel_rfl) rfl (fun w1 hw1 => (c_RdO (l := (invR (cutP ls 10))) w1 (keep_new hr38 hw1 (by simp) hm38) (invR_big _) (hL.later (hw1.base (by simp)))).mono fun e w2 ⟨R, h1, h2, h3⟩ => ⟨R, h1, h2.base (by simp), h3.keep (fun k hk _ => hk.elim), hw1.join h2⟩) ?_
  intro R0 hR0
  have hp0 := price0 (rdI_prices (cutP ls 10)) hR0
  have hYm : (rdI (invR (cutP ls 10))).1.length ≤ 9223372036854775807 := hR0.len (v := 0)
  refine x_val rfl rfl rfl (v_move rfl) ?_
  refine x_val rfl rfl rfl (v_extract rfl rfl) ?_
  refine x_val rfl rfl rfl (v_extract rfl rfl) ?_
  refine x_val rfl rfl rfl (v_assign rfl) ?_
  refine x_val rfl rfl rfl (v_assign rfl) ?_
  refine x_end ?_
  refine t_norm ?_
  refine w_seq ?_
  refine w_seq ?_
  refine rg_text ?_
  refine x_val rfl rfl rfl (v_move rfl) ?_
  refine x_val rfl rfl rfl (v_len_slice Tryz.underlying28 rfl) ?_
  refine x_val rfl rfl rfl (v_move rfl) ?_
  refine x_end ?_
  refine t_norm ?_
  refine w_block ?_
  refine w_loop (σ := Nat × RowS) (fun x => x.1 ≤ (rdI (invR (cutP ls 10))).1.length ∧ priceOK (rdI (invR (cutP ls 10))).1.length x.1 x.2) (fun x => [(7, Value.bool true), (8, Value.slice A22 (cutP ls 10).length c22), (9, Value.slice A24 (cutP ls 10).length c24), (10, v30), (11, v36), (12, Value.slice A38 (invR (cutP ls 10)).length c38), (13, rowV x.2 (rdI (invR (cutP ls 10))).1.length), (45, Value.int .i64 ((rdI (invR (cutP ls 10))).1.length : Nat)), (46, Value.int .i64 (x.1 : Nat))]) (fun x => rowO 25 x.2) (fun x => [(wb38, notOwn [(p35, Obj.cells [Value.slice (some ⟨p33, 0, none⟩) 3 3, .slice (some ⟨p34, 0, none⟩) 2 2].toArray 56), (p34, Obj.cells [Value.int .u8 8, .int .u8 9].toArray 5), (p33, Obj.cells [Value.int .u8 1, .int .u8 2, .int .u8 4].toArray 5), (p29, Obj.cells [Value.slice (some ⟨p27, 0, none⟩) 3 3, .slice (some ⟨p28, 0, none⟩) 2 2].toArray 56), (p28, Obj.cells [Value.int .u8 8, .int .u8 9].toArray 5), (p27, Obj.cells [Value.int .u8 1, .int .u8 2, .int .u8 4].toArray 5)]), (wb36, notOwn [(p35, Obj.cells [Value.slice (some ⟨p33, 0, none⟩) 3 3, .slice (some ⟨p34, 0, none⟩) 2 2].toArray 56), (p34, Obj.cells [Value.int .u8 8, .int .u8 9].toArray 5), (p33, Obj.cells [Value.int .u8 1, .int .u8 2, .int .u8 4].toArray 5), (p29, Obj.cells [Value.slice (some ⟨p27, 0, none⟩) 3 3, .slice (some ⟨p28, 0, none⟩) 2 2].toArray 56), (p28, Obj.cells [Value.int .u8 8, .int .u8 9].toArray 5), (p27, Obj.cells [Value.int .u8 1, .int .u8 2, .int .u8 4].toArray 5)]), (wb30, notOwn [(p29, Obj.cells [Value.slice (some ⟨p27, 0, none⟩) 3 3, .slice (some ⟨p28, 0, none⟩) 2 2].toArray 56), (p28, Obj.cells [Value.int .u8 8, .int .u8 9].toArray 5), (p27, Obj.cells [Value.int .u8 1, .int .u8 2, .int .u8 4].toArray 5)]), (wb24, notOwn []), (wb22, notOwn []), (w, fun _ => True)]) (fun x => (rdI (invR (cutP ls 10))).1.length - x.1) ((0, R0)) (⟨Nat.zero_le _, hp0⟩) (l_start (by repeat (first | exact Sub.nil | refine Sub.cons rfl ?_)) (fun _ h => h)) ?_
  rintro ⟨k, R⟩ ⟨hk, hP⟩
  refine w_state ([(7, Value.bool true), (8, Value.slice A22 (cutP ls 10).length c22), (9, Value.slice A24 (cutP ls 10).length c24), (10, v30), (11, v36), (12, Value.slice A38 (invR (cutP ls 10)).length c38), (13, rowV R (rdI (invR (cutP ls 10))).1.length), (45, Value.int .i64 ((rdI (invR (cutP ls 10))).1.length : Nat)), (46, Value.int .i64 (k : Nat))]) (rowO 25 R) ([(wb38, notOwn [(p35, Obj.cells [Value.slice (some ⟨p33, 0, none⟩) 3 3, .slice (some ⟨p34, 0, none⟩) 2 2].toArray 56), (p34, Obj.cells [Value.int .u8 8, .int .u8 9].toArray 5), (p33, Obj.cells [Value.int .u8 1, .int .u8 2, .int .u8 4].toArray 5), (p29, Obj.cells [Value.slice (some ⟨p27, 0, none⟩) 3 3, .slice (some ⟨p28, 0, none⟩) 2 2].toArray 56), (p28, Obj.cells [Value.int .u8 8, .int .u8 9].toArray 5), (p27, Obj.cells [Value.int .u8 1, .int .u8 2, .int .u8 4].toArray 5)]), (wb36, notOwn [(p35, Obj.cells [Value.slice (some ⟨p33, 0, none⟩) 3 3, .slice (some ⟨p34, 0, none⟩) 2 2].toArray 56), (p34, Obj.cells [Value.int .u8 8, .int .u8 9].toArray 5), (p33, Obj.cells [Value.int .u8 1, .int .u8 2, .int .u8 4].toArray 5), (p29, Obj.cells [Value.slice (some ⟨p27, 0, none⟩) 3 3, .slice (some ⟨p28, 0, none⟩) 2 2].toArray 56), (p28, Obj.cells [Value.int .u8 8, .int .u8 9].toArray 5), (p27, Obj.cells [Value.int .u8 1, .int .u8 2, .int .u8 4].toArray 5)]), (wb30, notOwn [(p29, Obj.cells [Value.slice (some ⟨p27, 0, none⟩) 3 3, .slice (some ⟨p28, 0, none⟩) 2 2].toArray 56), (p28, Obj.cells [Value.int .u8 8, .int .u8 9].toArray 5), (p27, Obj.cells [Value.int .u8 1, .int .u8 2, .int .u8 4].toArray 5)]), (wb24, notOwn []), (wb22, notOwn []), (w, fun _ => True)]) ?_
  dsimp only at hk hP
  refine w_seq ?_
  refine rg_text ?_
  refine x_bool rfl rfl rfl (v_lss rfl rfl) ?_
  intro b47 hb47
  refine x_end ?_
  refine t_norm ?_
  refine w_seq ?_
  refine w_cond rfl (fun hc47 => ?_) (fun hc47 => ?_)
  · simp only [hb47, decide_eq_true_eq, decide_eq_false_iff_not, Bool.and_eq_true, Bool.or_eq_true, Bool.and_eq_false_iff, Bool.or_eq_false_iff, Bool.not_eq_true', Bool.not_eq_false', ne_eq, Decidable.not_not] at hc47
    have hk1 : k < (rdI (invR (cutP ls 10))).1.length := by omega
    obtain ⟨bb, cs, cc, pr, rfl, hcs, hpr, hpm⟩ := hP k hk1
    have hpm := hpm (Nat.le_refl _)
    obtain ⟨hcl, _⟩ := List.getElem?_eq_some_iff.1 hcs
    refine w_skip ?_
    refine t_norm ?_
    refine w_seq ?_
    refine w_block ?_
    refine w_seq ?_
    refine rg_text ?_
    refine x_val rfl rfl rfl (v_move rfl) ?_
    refine x_val rfl rfl rfl (v_assign rfl) ?_
    refine x_end ?_
    refine t_norm ?_
    refine rg_text ?_
    refine x_val rfl rfl rfl (v_move rfl) ?_
    refine x_val rfl rfl rfl (v_move rfl) ?_
    refine x_val rfl rfl rfl (v_indexAddr Tryz.underlying28 sz25 rfl rfl (hk1) rfl) ?_
    refine x_val rfl rfl rfl (v_fieldAddr Tryz.underlying25 rfl sz3 (by decide) rfl rfl) ?_
    refine x_val rfl rfl rfl (v_load Tryz.underlying3 rfl rfl (at_ownL (vs := cs) (.head _) (by rw [Nat.zero_add]; exact hcs))) ?_
    refine x_val rfl rfl rfl (v_addi rfl rfl rfl (by omega)) ?_
    refine x_val rfl rfl rfl (v_indexAddr Tryz.underlying28 sz25 rfl rfl (hk1) rfl) ?_
    refine x_val rfl rfl rfl (v_fieldAddr Tryz.underlying25 rfl sz3 (by decide) rfl rfl) ?_
    refine x_store (cs := cs) (off := 0 + k * 9 + 5) [] rfl rfl rfl rfl sz3 rfl (by rw [Nat.zero_add]; show k * 9 + 5 + 1 ≤ _; omega) ?_
    rw [show 0 + k * 9 + 5 = k * 9 + 5 by omega, put_int hcl]
    refine x_end ?_
    refine b_norm ?_
    refine t_norm ?_
    refine rg_text ?_
    refine x_val rfl rfl rfl (v_addi rfl rfl rfl (by first | omega | (dsimp only; omega))) ?_
    refine x_val rfl rfl rfl (v_move rfl) ?_
    refine x_end ?_
    exact l_norm (x := (k, some (bb, cs, cc))) (μ := fun q : Nat × RowS => (rdI (invR (cutP ls 10))).1.length - q.1) (k + 1, some (bb, cs.set (k * 9 + 5) (Value.int .i64 (pr + 1)), cc)) ⟨by dsimp only; omega, price_step hP hpr⟩ (by simp only; omega) (by repeat (first | exact Sub.nil | refine Sub.cons rfl ?_)) (fun _ h => h)
  · simp only [hb47, decide_eq_true_eq, decide_eq_false_iff_not, Bool.and_eq_true, Bool.or_eq_true, Bool.and_eq_false_iff, Bool.or_eq_false_iff, Bool.not_eq_true', Bool.not_eq_false', ne_eq, Decidable.not_not] at hc47
    refine w_exit ?_
    refine t_exit ?_
    refine t_exit ?_
    refine b_hit ?_
    refine t_norm ?_
    refine w_seq ?_
    refine rg_text ?_
    refine x_val rfl rfl rfl (v_move rfl) ?_
    refine x_callv rfl rfl rfl Tryz.func22 (by kernel_rfl) rfl (fun w1 hw1 => c_Write (l := segsP tags texts [[1, 2, 4], [8, 9]]) w1 (keep_new hR30 hw1 (by simp) hm30) (segs_le hs1 hs2)) ?_
    refine x_val rfl rfl rfl (v_move rfl) ?_
    refine x_val rfl rfl rfl (v_extract rfl rfl) ?_
    refine x_val rfl rfl rfl (v_extract rfl rfl) ?_
    refine x_val rfl rfl rfl (v_assign rfl) ?_
    refine x_val rfl rfl rfl (v_assign rfl) ?_
    refine x_end ?_
    refine t_norm ?_
    refine w_seq ?_
    refine rg_text ?_
    refine x_val rfl rfl rfl (v_move rfl) ?_
    refine x_callv rfl rfl rfl Tryz.func22 (by kernel_rfl) rfl (fun w1 hw1 => c_Write (l := segsP tags texts [[1, 2, 4], [8, 9]]) w1 (keep_new hR30 hw1 (by simp) hm30) (segs_le hs1 hs2)) ?_
    refine x_val rfl rfl rfl (v_move rfl) ?_
    refine x_val rfl rfl rfl (v_extract rfl rfl) ?_
    refine x_val rfl rfl rfl (v_extract rfl rfl) ?_
    refine x_val rfl rfl rfl (v_assign rfl) ?_
    refine x_val rfl rfl rfl (v_assign rfl) ?_
    refine x_end ?_
    refine t_norm ?_
    refine w_seq ?_
    refine rg_text ?_
    refine x_val rfl rfl rfl (v_move rfl) ?_
    refine x_val rfl rfl rfl (v_move rfl) ?_
    refine x_if [] rfl rfl rfl rfl rfl (fun hg => by obtain ⟨hg0, _⟩ := hg; (try simp only [List.cons_append, List.nil_append, gvl_nil, gvl_t, gvl_f]); exact v_move rfl) ?_
    refine x_if [] rfl rfl rfl rfl rfl (fun hg => by obtain ⟨hg0, _⟩ := hg; (try simp only [List.cons_append, List.nil_append, gvl_nil, gvl_t, gvl_f]); exact v_move rfl) ?_
    refine x_call_ifb [] rfl rfl rfl rfl rfl Tryz.func25 (by kernel_rfl) (fun hg => by obtain ⟨hg0, _⟩ := hg; (try simp only [List.cons_append, List.nil_append, gvl_nil, gvl_t, gvl_f]); refine ⟨_, rfl, ?_⟩; exact fun w1 hw1 => c_Orders (xs := (cutP ls 10)) (ys := (cutP ls 10)) w1 (keep_new hr22 hw1 (by simp) hm22) (keep_new hr24 hw1 (by simp) hm24)) ?_
    intro b72 hb72
    obtain rfl : b72 = true := hb72.trans (decide_eq_true rfl)
    refine x_bool rfl rfl rfl (v_and rfl rfl) ?_
    intro b73 hb73
    obtain rfl : b73 = true := hb73
    refine x_val rfl rfl rfl (v_move rfl) ?_
    refine x_if [] rfl rfl rfl rfl rfl (fun hg => by obtain ⟨hg0, _⟩ := hg; (try simp only [List.cons_append, List.nil_append, gvl_nil, gvl_t, gvl_f]); exact v_move rfl) ?_
    refine x_if [] rfl rfl rfl rfl rfl (fun hg => by obtain ⟨hg0, _⟩ := hg; (try simp only [List.cons_append, List.nil_append, gvl_nil, gvl_t, gvl_f]); exact v_move rfl) ?_
    refine x_call_ifb [] rfl rfl rfl rfl rfl Tryz.func12 (by kernel_rfl) (fun hg => by obtain ⟨hg0, _⟩ := hg; (try simp only [List.cons_append, List.nil_append, gvl_nil, gvl_t, gvl_f]); refine ⟨_, rfl, ?_⟩; exact fun w1 hw1 => c_Same (xs := segsP tags texts [[1, 2, 4], [8, 9]]) (ys := segsP tags texts [[1, 2, 4], [8, 9]]) w1 (keep_new hR30 hw1 (by simp) hm30) (keep_new hR36 hw1 (by simp) hm36)) ?_
    intro b77 hb77
    obtain rfl : b77 = true := hb77.trans (decide_eq_true rfl)
    refine x_bool rfl rfl rfl (v_and rfl rfl) ?_
    intro b78 hb78
    obtain rfl : b78 = true := hb78
    refine x_val rfl rfl rfl (v_move rfl) ?_
    refine x_if [] rfl rfl rfl rfl rfl (fun hg => by obtain ⟨hg0, _⟩ := hg; (try simp only [List.cons_append, List.nil_append, gvl_nil, gvl_t, gvl_f]); exact v_move rfl) ?_
    refine x_if [] rfl rfl rfl rfl rfl (fun hg => by obtain ⟨hg0, _⟩ := hg; (try simp only [List.cons_append, List.nil_append, gvl_nil, gvl_t, gvl_f]); exact v_move rfl) ?_
    refine x_ifb [] rfl rfl rfl rfl rfl (fun hg => by obtain ⟨hg0, _⟩ := hg; (try simp only [List.cons_append, List.nil_append, gvl_nil, gvl_t, gvl_f]); exact v_seql rfl rfl) ?_
    intro b82 hb82
    obtain rfl : b82 = true := hb82.trans (decide_eq_true rfl)
    refine x_bool rfl rfl rfl (v_and rfl rfl) ?_
    intro b83 hb83
    obtain rfl : b83 = true := hb83
    refine x_val rfl rfl rfl (v_move rfl) ?_
    refine x_if [] rfl rfl rfl rfl rfl (fun hg => by obtain ⟨hg0, _⟩ := hg; (try simp only [List.cons_append, List.nil_append, gvl_nil, gvl_t, gvl_f]); exact v_move rfl) ?_
    refine x_if [] rfl rfl rfl rfl rfl (fun hg => by obtain ⟨hg0, _⟩ := hg; (try simp only [List.cons_append, List.nil_append, gvl_nil, gvl_t, gvl_f]); exact v_move rfl) ?_
    refine x_ifb [] rfl rfl rfl rfl rfl (fun hg => by obtain ⟨hg0, _⟩ := hg; (try simp only [List.cons_append, List.nil_append, gvl_nil, gvl_t, gvl_f]); exact v_eql rfl rfl) ?_
    intro b87 hb87
    obtain rfl : b87 = true := hb87.trans (decide_eq_true rfl)
    refine x_bool rfl rfl rfl (v_and rfl rfl) ?_
    intro b88 hb88
    obtain rfl : b88 = true := hb88
    refine x_val rfl rfl rfl (v_move rfl) ?_
    refine x_if [] rfl rfl rfl rfl rfl (fun hg => by obtain ⟨hg0, _⟩ := hg; (try simp only [List.cons_append, List.nil_append, gvl_nil, gvl_t, gvl_f]); exact v_move rfl) ?_
    refine x_call_g (R := fun v wa wb => sliceRd tySeg (fun b => wa.heap.size ≤ b) wb v (invR (cutP ls 10))) rfl rfl rfl rfl rfl Tryz.func16 (by kernel_rfl) rfl (fun w1 hw1 => (c_Invoice (ls := (cutP ls 10)) w1 (keep_new hr22 hw1 (by simp) hm22) (hL.later (hw1.base (by simp)))).mono fun e w2 ⟨v, h1, h2, h3, _⟩ => ⟨_, h1, h2, h3⟩) ?_
    intro v91 wa91 wb91 hm91 hl91 hR91
    refine x_if [] rfl rfl rfl rfl rfl (fun hg => by obtain ⟨hg0, _⟩ := hg; (try simp only [List.cons_append, List.nil_append, gvl_nil, gvl_t, gvl_f]); exact v_move rfl) ?_
    refine x_call_ifb [] rfl rfl rfl rfl rfl Tryz.func12 (by kernel_rfl) (fun hg => by obtain ⟨hg0, _⟩ := hg; (try simp only [List.cons_append, List.nil_append, gvl_nil, gvl_t, gvl_f]); refine ⟨_, rfl, ?_⟩; exact fun w1 hw1 => c_Same (xs := (invR (cutP ls 10))) (ys := (invR (cutP ls 10))) w1 (keep_new hR91 hw1 (by simp) hm91) (keep_new hr38 hw1 (by simp) hm38)) ?_
    intro b93 hb93
    refine x_bool rfl rfl rfl (v_and rfl rfl) ?_
    intro b94 hb94
    refine x_val rfl rfl rfl (v_assign rfl) ?_
    refine x_end ?_
    refine t_norm ?_
    refine w_ret ?_
    refine ret1 rfl rfl (fun w' hm => ⟨?_, hm.base (by simp)⟩)
    rw [hb94, hb93]; simp

end Go.Proofs.YtbamklefagghcaaGreatDoor
