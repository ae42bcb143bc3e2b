/- Of the proofs of YtffdbbcmibamjaaDoor: Wx, put together. -/
import Derived.Test.YtffdbbcmibamjaaDoorM4
import Derived.Test.YtffdbbcmibamjaaDoorM1
import Derived.Test.YtffdbbcmibamjaaDoorM2
import Derived.Test.YtffdbbcmibamjaaDoorM3
namespace Go.Proofs.YtffdbbcmibamjaaDoor
open Go.RowKit Go.PK
set_option linter.unusedVariables false
set_option linter.unusedSimpArgs false

theorem calC_puts {wk : List Bool} {v : Value} {A : Option Addr} {j c : Nat} (h : wk.length = 7) : List.take 7 (calC wk v) ++ (Value.slice A j c).cells.toList ++ List.drop (7 + 1) (calC wk v) = calC wk (.slice A j c) := by
  show List.take 7 (calC wk v) ++ [Value.slice A j c] ++ List.drop (7 + 1) (calC wk v) = _
  unfold calC
  rw [List.take_append_of_le_length (by simp [h]), List.take_of_length_le (by simp [h]), List.drop_eq_nil_of_le (by simp [h]), List.append_nil]
set_option maxRecDepth 100000 in
theorem c10 (u near : Int) {v : Value} {l : List Int} (w : World) (hu : 0 ≤ u ∧ u ≤ 255) (hn : in64 near) (hls : sliceRd (tyK .u8) (fun _ => True) w v l) (hL : LD w) :
    Calls Tryd.prog 10 #[.int .u8 u, .int .i64 near, v] w fun e w' => e = .returned (.bool true) ∧ Later w w' := by
  obtain ⟨A, c, rfl, hlc, hmx, hA⟩ := id hls
  obtain ⟨N, hN⟩ : ∃ N, N = near.tmod 3000000 := ⟨_, rfl⟩
  have hNr := tmod_bd near 3000000 (by decide)
  rw [← hN] at hNr
  refine enter (vs := [.int .u8 u, .int .i64 near, .slice A l.length c]) Tryd.func10 rfl Tryd.ntmps10 rfl ?_
  refine w_seq ?_
  refine rg_text ?_
  refine x_val rfl rfl rfl (v_assign rfl) ?_
  refine x_end ?_
  refine t_norm ?_
  refine w_seq ?_
  refine rg_text ?_
  refine x_callb rfl rfl rfl Tryd.func12 (by kernel_rfl) rfl (fun w1 hw1 => c12 w1 (hL.later (hw1.base (by simp)))) ?_
  intro b16 hb16
  obtain rfl : b16 = true := hb16
  refine x_val rfl rfl rfl (v_assign rfl) ?_
  refine x_end ?_
  refine t_norm ?_
  refine w_seq ?_
  refine rg_text ?_
  refine x_val rfl rfl rfl (v_move rfl) ?_
  refine x_val rfl rfl rfl (v_move rfl) ?_
  refine x_val rfl rfl rfl (v_move rfl) ?_
  refine x_call rfl rfl rfl Tryd.func22 (by kernel_rfl) rfl (fun w1 hw1 => c22 _ near w1 hu (hls.keep (Kept.later (hw1.base (by simp))))) ?_
  intro v20 wa20 wb20 hm20 hl20 hr20
  obtain ⟨V20, rfl, hrd20⟩ := hr20
  obtain ⟨A20, c20, hV20, _⟩ := id hrd20
  subst hV20
  refine x_alloc rfl rfl rfl zr38 ?_
  intro p8
  refine x_store0 [] rfl rfl rfl rfl sz38 rfl rfl ?_
  refine x_end ?_
  refine t_norm ?_
  refine w_seq ?_
  refine rg_text ?_
  refine x_val rfl rfl rfl (v_load_blk (e := 38) (fz := (0, 0)) (cs := (calC (wkOf u) (.slice A20 (madeD near l).length c20)).toArray) Tryd.underlying38 rfl rfl (.head _) (by rw [calC_size (wkOf_len u)]; exact sz38)) ?_
  refine x_call rfl rfl rfl Tryd.func28 (by kernel_rfl) rfl (fun w1 hw1 => c28 (wk := wkOf u) (v := (.slice A20 (madeD near l).length c20)) w1 (keep_new hrd20 hw1 (.head _) hm20) (wkOf_len u) (madeD_len near l)) ?_
  intro v22 wa22 wb22 hm22 hl22 hr22
  obtain ⟨V22, rfl, hrd22⟩ := hr22
  obtain ⟨A22, cc22, hV22, _⟩ := id hrd22
  subst hV22
  refine x_alloc rfl rfl rfl zr38 ?_
  intro p9
  refine x_store0 [] rfl rfl rfl rfl sz38 rfl rfl ?_
  refine x_end ?_
  refine t_norm ?_
  refine w_seq ?_
  refine w_seq ?_
  refine rg_draw 10 [(true, 0), (true, 1), (true, 2), (true, 3), (true, 4), (true, 5), (true, 6), (true, 7), (true, 8), (true, 9)] (by kernel_rfl) (by kernel_rfl) ?_
  refine x_val rfl rfl rfl (v_load_blk (e := 38) (fz := (0, 0)) (cs := (calC (wkOf u) (.slice A20 (madeD near l).length c20)).toArray) Tryd.underlying38 rfl rfl (.tail _ (.head _)) (by rw [calC_size (wkOf_len u)]; exact sz38)) ?_
  refine x_callb rfl rfl rfl Tryd.func29 (by kernel_rfl) rfl (fun w1 hw1 => c29 (wk := wkOf u) (v := (.slice A20 (madeD near l).length c20))  w1 (keep_new hrd20 hw1 (.tail _ (.head _)) hm20) (wkOf_len u)) ?_
  intro b24 hb24
  refine x_val rfl rfl rfl (v_load_blk (e := 38) (fz := (0, 0)) (cs := (calC (wkOf u) (.slice A20 (madeD near l).length c20)).toArray) Tryd.underlying38 rfl rfl (.tail _ (.head _)) (by rw [calC_size (wkOf_len u)]; exact sz38)) ?_
  refine x_callb rfl rfl rfl Tryd.func30 (by kernel_rfl) rfl (fun w1 hw1 => c30 (wk := wkOf u) (v := (.slice A20 (madeD near l).length c20))  w1 (keep_new hrd20 hw1 (.tail _ (.head _)) hm20) (wkOf_len u)) ?_
  intro b26 hb26
  refine x_bool rfl rfl rfl (v_bneq rfl rfl Tryd.underlying4) ?_
  intro b27 hb27
  refine x_val rfl rfl rfl (v_move rfl) ?_
  refine x_if [] rfl rfl rfl rfl rfl (fun hg => by obtain ⟨hg0, _⟩ := hg; subst hg0; (try simp only [List.cons_append, List.nil_append, gvl_nil, gvl_t, gvl_f]); exact v_load_blk (e := 38) (fz := (0, 0)) (cs := (calC (wkOf u) (.slice A22 (srtD (madeD near l)).length cc22)).toArray) Tryd.underlying38 rfl rfl (.head _) (by rw [calC_size (wkOf_len u)]; exact sz38)) ?_
  refine x_call_ifb [] rfl rfl rfl rfl rfl Tryd.func29 (by kernel_rfl) (fun hg => by obtain ⟨hg0, _⟩ := hg; subst hg0; (try simp only [List.cons_append, List.nil_append, gvl_nil, gvl_t, gvl_f]); refine ⟨_, rfl, ?_⟩; exact fun w1 hw1 => c29 (wk := wkOf u) (v := (.slice A22 (srtD (madeD near l)).length cc22))  w1 (keep_new hrd22 hw1 (.head _) hm22) (wkOf_len u)) ?_
  intro b30 hb30
  refine x_ifb [] rfl rfl rfl rfl rfl (fun hg => by obtain ⟨hg0, _⟩ := hg; subst hg0; (try simp only [List.cons_append, List.nil_append, gvl_nil, gvl_t, gvl_f]); exact v_not rfl) ?_
  intro b31 hb31
  refine x_bool rfl rfl rfl (v_or rfl rfl) ?_
  intro b32 hb32
  refine x_end ?_
  refine t_norm ?_
  refine w_cond rfl (fun hc32 => ?_) (fun hc32 => ?_)
  · rw [hb32, hb31, hb30, hb27, hb26, hb24, srtD_right] at hc32; simp at hc32
  · skip
    refine w_skip ?_
    refine t_norm ?_
    refine w_seq ?_
    refine w_seq ?_
    refine rg_text ?_
    refine x_val rfl rfl rfl (v_assign rfl) ?_
    refine x_end ?_
    refine t_norm ?_
    refine w_block ?_
    refine w_loop (σ := Int) (fun k => -15 ≤ k ∧ k ≤ 62) (fun k => [(1, Value.int .i64 near), (2, .slice A l.length c), (7, Value.bool true), (8, .pointer (some ⟨p8, 0, none⟩)), (9, .pointer (some ⟨p9, 0, none⟩)), (10, Value.int .i64 k)]) (fun k => [(p9, Obj.cells (calC (wkOf u) (.slice A22 (srtD (madeD near l)).length cc22)).toArray 38), (p8, Obj.cells (calC (wkOf u) (.slice A20 (madeD near l).length c20)).toArray 38)]) (fun k => [(wb22, notOwn [(p8, Obj.cells (calC (wkOf u) (.slice A20 (madeD near l).length c20)).toArray 38)]), (wb20, notOwn []), (w, fun _ => True)]) (fun k => (63 - k).toNat) (-15) (⟨by decide, by decide⟩) (l_start (by repeat (first | exact Sub.nil | refine Sub.cons rfl ?_)) (fun _ h => h)) ?_
    rintro k ⟨hk1, hk2⟩
    refine w_state ([(1, Value.int .i64 near), (2, .slice A l.length c), (7, Value.bool true), (8, .pointer (some ⟨p8, 0, none⟩)), (9, .pointer (some ⟨p9, 0, none⟩)), (10, Value.int .i64 k)]) ([(p9, Obj.cells (calC (wkOf u) (.slice A22 (srtD (madeD near l)).length cc22)).toArray 38), (p8, Obj.cells (calC (wkOf u) (.slice A20 (madeD near l).length c20)).toArray 38)]) ([(wb22, notOwn [(p8, Obj.cells (calC (wkOf u) (.slice A20 (madeD near l).length c20)).toArray 38)]), (wb20, notOwn []), (w, fun _ => True)]) ?_
    refine w_seq ?_
    refine w_seq ?_
    refine rg_text ?_
    refine x_val rfl rfl rfl (v_move rfl) ?_
    refine x_bool rfl rfl rfl (v_lss rfl rfl) ?_
    intro b34 hb34
    refine x_end ?_
    refine t_norm ?_
    refine w_cond rfl (fun hc34 => ?_) (fun hc34 => ?_)
    · simp only [hb34, decide_eq_true_eq, decide_eq_false_iff_not, Bool.and_eq_true, Bool.or_eq_true, Bool.and_eq_false_iff, Bool.or_eq_false_iff, Bool.not_eq_true', Bool.not_eq_false', ne_eq, Decidable.not_not] at hc34
      refine w_skip ?_
      refine t_norm ?_
      refine w_seq ?_
      refine w_block ?_
      refine w_seq ?_
      refine rg_text ?_
      refine x_val rfl rfl rfl (v_move rfl) ?_
      refine x_val (v := Value.int .i64 N) rfl rfl rfl (by rw [hN]; exact v_rem rfl rfl (by decide)) ?_
      refine x_val rfl rfl rfl (v_move rfl) ?_
      refine x_val rfl rfl rfl (v_addi rfl rfl rfl (by first | omega | (dsimp only; omega))) ?_
      refine x_val rfl rfl rfl (v_assign rfl) ?_
      refine x_end ?_
      refine t_norm ?_
      refine w_seq ?_
      refine rg_text ?_
      refine x_val rfl rfl rfl (v_load_blk (e := 38) (fz := (0, 0)) (cs := (calC (wkOf u) (.slice A20 (madeD near l).length c20)).toArray) Tryd.underlying38 rfl rfl (.tail _ (.head _)) (by rw [calC_size (wkOf_len u)]; exact sz38)) ?_
      refine x_val rfl rfl rfl (v_move rfl) ?_
      refine x_callv rfl rfl rfl Tryd.func23 (by kernel_rfl) rfl (fun w1 hw1 => c23 (wk := wkOf u) (v := (.slice A20 (madeD near l).length c20)) _ w1 (keep_new hrd20 hw1 (.tail _ (.head _)) hm20) (wkOf_len u) (by unfold in64; omega)) ?_
      refine x_val rfl rfl rfl (v_move rfl) ?_
      refine x_val rfl rfl rfl (v_extract rfl rfl) ?_
      refine x_bool rfl rfl rfl (v_extract rfl rfl) ?_
      intro b50 hb50
      refine x_val rfl rfl rfl (v_assign rfl) ?_
      refine x_val rfl rfl rfl (v_assign rfl) ?_
      refine x_end ?_
      refine t_norm ?_
      refine w_seq ?_
      refine rg_text ?_
      refine x_val rfl rfl rfl (v_load_blk (e := 38) (fz := (0, 0)) (cs := (calC (wkOf u) (.slice A20 (madeD near l).length c20)).toArray) Tryd.underlying38 rfl rfl (.tail _ (.head _)) (by rw [calC_size (wkOf_len u)]; exact sz38)) ?_
      refine x_val rfl rfl rfl (v_move rfl) ?_
      refine x_callv rfl rfl rfl Tryd.func31 (by kernel_rfl) rfl (fun w1 hw1 => c31 (wk := wkOf u) (v := (.slice A20 (madeD near l).length c20)) _ w1 (keep_new hrd20 hw1 (.tail _ (.head _)) hm20) (wkOf_len u) (by unfold in64; omega)) ?_
      refine x_val rfl rfl rfl (v_move rfl) ?_
      refine x_val rfl rfl rfl (v_extract rfl rfl) ?_
      refine x_bool rfl rfl rfl (v_extract rfl rfl) ?_
      intro b56 hb56
      refine x_val rfl rfl rfl (v_assign rfl) ?_
      refine x_val rfl rfl rfl (v_assign rfl) ?_
      refine x_end ?_
      refine t_norm ?_
      refine w_seq ?_
      refine rg_draw 26 [(true, 0), (true, 1), (true, 2), (true, 3), (true, 4), (true, 5), (true, 6), (true, 7), (true, 8), (true, 9), (true, 10), (true, 11), (true, 12), (true, 13), (true, 14), (true, 15), (true, 16), (true, 17), (true, 18), (true, 19), (true, 20), (true, 21), (true, 22), (true, 23), (true, 24), (true, 25)] (by kernel_rfl) (by kernel_rfl) ?_
      refine x_val rfl rfl rfl (v_load_blk (e := 38) (fz := (0, 0)) (cs := (calC (wkOf u) (.slice A20 (madeD near l).length c20)).toArray) Tryd.underlying38 rfl rfl (.tail _ (.head _)) (by rw [calC_size (wkOf_len u)]; exact sz38)) ?_
      refine x_val rfl rfl rfl (v_move rfl) ?_
      refine x_callb rfl rfl rfl Tryd.func24 (by kernel_rfl) rfl (fun w1 hw1 => c24 (wk := wkOf u) (v := (.slice A20 (madeD near l).length c20)) _ w1 (keep_new hrd20 hw1 (.tail _ (.head _)) hm20) (wkOf_len u)) ?_
      intro b59 hb59
      refine x_val rfl rfl rfl (v_load_blk (e := 38) (fz := (0, 0)) (cs := (calC (wkOf u) (.slice A20 (madeD near l).length c20)).toArray) Tryd.underlying38 rfl rfl (.tail _ (.head _)) (by rw [calC_size (wkOf_len u)]; exact sz38)) ?_
      refine x_val rfl rfl rfl (v_move rfl) ?_
      refine x_callb rfl rfl rfl Tryd.func32 (by kernel_rfl) rfl (fun w1 hw1 => c32 (wk := wkOf u) (v := (.slice A20 (madeD near l).length c20)) _ w1 (keep_new hrd20 hw1 (.tail _ (.head _)) hm20) (wkOf_len u)) ?_
      intro b62 hb62
      refine x_bool rfl rfl rfl (v_bneq rfl rfl Tryd.underlying4) ?_
      intro b63 hb63
      refine x_val rfl rfl rfl (v_move rfl) ?_
      refine x_if [] rfl rfl rfl rfl rfl (fun hg => by obtain ⟨hg0, _⟩ := hg; subst hg0; (try simp only [List.cons_append, List.nil_append, gvl_nil, gvl_t, gvl_f]); exact v_load_blk (e := 38) (fz := (0, 0)) (cs := (calC (wkOf u) (.slice A22 (srtD (madeD near l)).length cc22)).toArray) Tryd.underlying38 rfl rfl (.head _) (by rw [calC_size (wkOf_len u)]; exact sz38)) ?_
      refine x_if [] rfl rfl rfl rfl rfl (fun hg => by obtain ⟨hg0, _⟩ := hg; subst hg0; (try simp only [List.cons_append, List.nil_append, gvl_nil, gvl_t, gvl_f]); exact v_move rfl) ?_
      refine x_call_ifb [] rfl rfl rfl rfl rfl Tryd.func24 (by kernel_rfl) (fun hg => by obtain ⟨hg0, _⟩ := hg; subst hg0; (try simp only [List.cons_append, List.nil_append, gvl_nil, gvl_t, gvl_f]); refine ⟨_, rfl, ?_⟩; exact fun w1 hw1 => c24 (wk := wkOf u) (v := (.slice A22 (srtD (madeD near l)).length cc22)) _ w1 (keep_new hrd22 hw1 (.head _) hm22) (wkOf_len u)) ?_
      intro b67 hb67
      refine x_if [] rfl rfl rfl rfl rfl (fun hg => by obtain ⟨hg0, _⟩ := hg; subst hg0; (try simp only [List.cons_append, List.nil_append, gvl_nil, gvl_t, gvl_f]); exact v_load_blk (e := 38) (fz := (0, 0)) (cs := (calC (wkOf u) (.slice A20 (madeD near l).length c20)).toArray) Tryd.underlying38 rfl rfl (.tail _ (.head _)) (by rw [calC_size (wkOf_len u)]; exact sz38)) ?_
      refine x_if [] rfl rfl rfl rfl rfl (fun hg => by obtain ⟨hg0, _⟩ := hg; subst hg0; (try simp only [List.cons_append, List.nil_append, gvl_nil, gvl_t, gvl_f]); exact v_move rfl) ?_
      refine x_call_ifb [] rfl rfl rfl rfl rfl Tryd.func24 (by kernel_rfl) (fun hg => by obtain ⟨hg0, _⟩ := hg; subst hg0; (try simp only [List.cons_append, List.nil_append, gvl_nil, gvl_t, gvl_f]); refine ⟨_, rfl, ?_⟩; exact fun w1 hw1 => c24 (wk := wkOf u) (v := (.slice A20 (madeD near l).length c20)) _ w1 (keep_new hrd20 hw1 (.tail _ (.head _)) hm20) (wkOf_len u)) ?_
      intro b70 hb70
      refine x_ifb [] rfl rfl rfl rfl rfl (fun hg => by obtain ⟨hg0, _⟩ := hg; subst hg0; (try simp only [List.cons_append, List.nil_append, gvl_nil, gvl_t, gvl_f]); exact v_bneq rfl rfl Tryd.underlying4) ?_
      intro b71 hb71
      refine x_bool rfl rfl rfl (v_or rfl rfl) ?_
      intro b72 hb72
      refine x_val rfl rfl rfl (v_move rfl) ?_
      refine x_if [] rfl rfl rfl rfl rfl (fun hg => by obtain ⟨hg0, _⟩ := hg; subst hg0; (try simp only [List.cons_append, List.nil_append, gvl_nil, gvl_t, gvl_f]); exact v_move rfl) ?_
      refine x_if [] rfl rfl rfl rfl rfl (fun hg => by obtain ⟨hg0, _⟩ := hg; subst hg0; (try simp only [List.cons_append, List.nil_append, gvl_nil, gvl_t, gvl_f]); exact v_move rfl) ?_
      refine x_ifb [] rfl rfl rfl rfl rfl (fun hg => by obtain ⟨hg0, _⟩ := hg; subst hg0; (try simp only [List.cons_append, List.nil_append, gvl_nil, gvl_t, gvl_f]); exact v_neq rfl rfl) ?_
      intro b76 hb76
      refine x_bool rfl rfl rfl (v_or rfl rfl) ?_
      intro b77 hb77
      refine x_val rfl rfl rfl (v_move rfl) ?_
      refine x_if [] rfl rfl rfl rfl rfl (fun hg => by obtain ⟨hg0, _⟩ := hg; subst hg0; (try simp only [List.cons_append, List.nil_append, gvl_nil, gvl_t, gvl_f]); exact v_move rfl) ?_
      refine x_if [] rfl rfl rfl rfl rfl (fun hg => by obtain ⟨hg0, _⟩ := hg; subst hg0; (try simp only [List.cons_append, List.nil_append, gvl_nil, gvl_t, gvl_f]); exact v_move rfl) ?_
      refine x_ifb [] rfl rfl rfl rfl rfl (fun hg => by obtain ⟨hg0, _⟩ := hg; subst hg0; (try simp only [List.cons_append, List.nil_append, gvl_nil, gvl_t, gvl_f]); exact v_bneq rfl rfl Tryd.underlying4) ?_
      intro b81 hb81
      refine x_bool rfl rfl rfl (v_or rfl rfl) ?_
      intro b82 hb82
      refine x_end ?_
      refine t_norm ?_
      refine w_cond rfl (fun hc82 => ?_) (fun hc82 => ?_)
      · rw [hb82, hb81, hb77, hb76, hb72, hb71, hb67, hb70, hb63, hb62, hb59, hb50, hb56, srtD_open] at hc82; simp at hc82
      · skip
        refine w_skip ?_
        refine b_norm ?_
        refine t_norm ?_
        refine rg_text ?_
        refine x_val rfl rfl rfl (v_move rfl) ?_
        refine x_val rfl rfl rfl (v_addi rfl rfl rfl (by first | omega | (dsimp only; omega))) ?_
        refine x_val rfl rfl rfl (v_move rfl) ?_
        refine x_val rfl rfl rfl (v_len_slice Tryd.underlying35 rfl) ?_
        refine x_val rfl rfl rfl (v_rem rfl rfl (by decide)) ?_
        refine x_val rfl rfl rfl (v_addi rfl rfl rfl (by have := tmod_bd (l.length : Int) 3 (by decide); omega)) ?_
        refine x_val rfl rfl rfl (v_assign rfl) ?_
        refine x_end ?_
        have ht3 := tmod_bd (l.length : Int) 3 (by decide)
        have ht0 : 0 ≤ (l.length : Int).tmod 3 := Int.tmod_nonneg _ (by omega)
        exact l_norm (k + 1 + (l.length : Int).tmod 3) ⟨by omega, by omega⟩ (by omega) (by repeat (first | exact Sub.nil | refine Sub.cons rfl ?_)) (fun _ h => h)
    · simp only [hb34, decide_eq_true_eq, decide_eq_false_iff_not, Bool.and_eq_true, Bool.or_eq_true, Bool.and_eq_false_iff, Bool.or_eq_false_iff, Bool.not_eq_true', Bool.not_eq_false', ne_eq, Decidable.not_not] at hc34
      refine w_exit ?_
      refine t_exit ?_
      refine t_exit ?_
      refine b_hit ?_
      refine t_norm ?_
      refine w_seq ?_
      refine rg_text ?_
      refine x_val rfl rfl rfl (v_move rfl) ?_
      refine x_val rfl rfl rfl (v_assign rfl) ?_
      refine x_end ?_
      refine t_norm ?_
      refine w_ret ?_
      refine ret1 rfl rfl (fun w' hm => ⟨?_, hm.base (by simp)⟩)
      rfl
set_option maxRecDepth 100000 in
theorem c11 {v : Value} {ds : List Int} {wk : List Bool} (n : Int) (w : World) (hds : sliceRd tyI (fun _ => True) w v ds) (hwk : wk.length = 7) (hn : in64 n) (hL : LD w) :
    Calls Tryd.prog 11 #[.agg (calC wk v).toArray, .int .i64 n] w fun e w' => e = .returned (.bool true) ∧ Later w w' := by
  obtain ⟨A, c, rfl, hlc, hmx, hA⟩ := id hds
  have htk := hds.take (min ds.length 20) (by omega)
  refine enter (vs := [.agg (calC wk (.slice A ds.length c)).toArray, .int .i64 n]) Tryd.func11 rfl Tryd.ntmps11 rfl ?_
  refine w_seq ?_
  refine rg_text ?_
  refine x_box rfl rfl rfl rfl ?_
  intro p2
  refine x_val rfl rfl rfl (v_assign rfl) ?_
  refine x_end ?_
  refine t_norm ?_
  refine w_seq ?_
  refine rg_text ?_
  refine x_callb rfl rfl rfl Tryd.func12 (by kernel_rfl) rfl (fun w1 hw1 => c12 w1 (hL.later (hw1.base (by simp)))) ?_
  intro b10 hb10
  obtain rfl : b10 = true := hb10
  refine x_val rfl rfl rfl (v_assign rfl) ?_
  refine x_end ?_
  refine t_norm ?_
  refine w_seq ?_
  refine rg_text ?_
  refine x_val rfl rfl rfl (v_fieldAddr (off' := 7) Tryd.underlying38 rfl sz26 (by decide) rfl rfl) ?_
  refine x_val rfl rfl rfl (v_load Tryd.underlying26 rfl rfl (at_ownL (vs := calC wk (.slice A ds.length c)) (.head _) (calC_v hwk))) ?_
  refine x_val rfl rfl rfl (v_fieldAddr (off' := 7) Tryd.underlying38 rfl sz26 (by decide) rfl rfl) ?_
  refine x_val rfl rfl rfl (v_load Tryd.underlying26 rfl rfl (at_ownL (vs := calC wk (.slice A ds.length c)) (.head _) (calC_v hwk))) ?_
  refine x_val rfl rfl rfl (v_len_slice Tryd.underlying26 rfl) ?_
  refine x_val rfl rfl rfl (v_min rfl rfl) ?_
  refine x_val rfl rfl rfl (v_scut_to (j := (min ds.length 20)) Tryd.underlying26 sz3 rfl (congrArg (fun z : Int => some (Value.int .i64 z)) (show min (ds.length : Int) 20 = (((min ds.length 20) : Nat) : Int) by omega)) (by omega)) ?_
  refine x_val rfl rfl rfl (v_fieldAddr (off' := 7) Tryd.underlying38 rfl sz26 (by decide) rfl rfl) ?_
  refine x_store [] rfl rfl rfl rfl sz26 rfl (by rw [calC_len, hwk]; exact Nat.le_refl _) ?_
  refine x_end ?_
  refine t_norm ?_
  refine w_seq ?_
  refine rg_text ?_
  rw [calC_puts hwk]
  refine x_val rfl rfl rfl (v_load_blk (e := 38) (fz := (0, 0)) (cs := (calC wk (.slice A (min ds.length 20) c)).toArray) Tryd.underlying38 rfl rfl (.head _) (by rw [calC_size hwk]; exact sz38)) ?_
  refine x_val rfl rfl rfl (v_move rfl) ?_
  refine x_callv rfl rfl rfl Tryd.func23 (by kernel_rfl) rfl (fun w1 hw1 => c23 (wk := wk) (v := (.slice A (min ds.length 20) c)) _ w1 (htk.keep (Kept.later (hw1.base (by simp)))) hwk hn) ?_
  refine x_val rfl rfl rfl (v_move rfl) ?_
  refine x_val rfl rfl rfl (v_extract rfl rfl) ?_
  refine x_bool rfl rfl rfl (v_extract rfl rfl) ?_
  intro b24 hb24
  refine x_val rfl rfl rfl (v_assign rfl) ?_
  refine x_val rfl rfl rfl (v_assign rfl) ?_
  refine x_end ?_
  refine t_norm ?_
  refine w_seq ?_
  refine rg_text ?_
  refine x_val rfl rfl rfl (v_load_blk (e := 38) (fz := (0, 0)) (cs := (calC wk (.slice A (min ds.length 20) c)).toArray) Tryd.underlying38 rfl rfl (.head _) (by rw [calC_size hwk]; exact sz38)) ?_
  refine x_val rfl rfl rfl (v_move rfl) ?_
  refine x_callv rfl rfl rfl Tryd.func31 (by kernel_rfl) rfl (fun w1 hw1 => c31 (wk := wk) (v := (.slice A (min ds.length 20) c)) _ w1 (htk.keep (Kept.later (hw1.base (by simp)))) hwk hn) ?_
  refine x_val rfl rfl rfl (v_move rfl) ?_
  refine x_val rfl rfl rfl (v_extract rfl rfl) ?_
  refine x_bool rfl rfl rfl (v_extract rfl rfl) ?_
  intro b30 hb30
  refine x_val rfl rfl rfl (v_assign rfl) ?_
  refine x_val rfl rfl rfl (v_assign rfl) ?_
  refine x_end ?_
  refine t_norm ?_
  refine w_seq ?_
  refine rg_draw 28 [(true, 0), (true, 1), (true, 2), (true, 3), (true, 4), (true, 5), (true, 6), (true, 7), (true, 8), (true, 9), (true, 10), (true, 11), (true, 12), (true, 13), (true, 14), (true, 15), (true, 16), (true, 17), (true, 18), (true, 19), (true, 20), (true, 21), (true, 22), (true, 23), (true, 24), (true, 25), (true, 26), (true, 27)] (by kernel_rfl) (by kernel_rfl) ?_
  refine x_val rfl rfl rfl (v_move rfl) ?_
  refine x_val rfl rfl rfl (v_move rfl) ?_
  refine x_if [] rfl rfl rfl rfl rfl (fun hg => by obtain ⟨hg0, _⟩ := hg; (try simp only [List.cons_append, List.nil_append, gvl_nil, gvl_t, gvl_f]); exact v_load_blk (e := 38) (fz := (0, 0)) (cs := (calC wk (.slice A (min ds.length 20) c)).toArray) Tryd.underlying38 rfl rfl (.head _) (by rw [calC_size hwk]; exact sz38)) ?_
  refine x_call_ifb [] rfl rfl rfl rfl rfl Tryd.func29 (by kernel_rfl) (fun hg => by obtain ⟨hg0, _⟩ := hg; (try simp only [List.cons_append, List.nil_append, gvl_nil, gvl_t, gvl_f]); refine ⟨_, rfl, ?_⟩; exact fun w1 hw1 => c29 (wk := wk) (v := (.slice A (min ds.length 20) c))  w1 (htk.keep (Kept.later (hw1.base (by simp)))) hwk) ?_
  intro b34 hb34
  refine x_if [] rfl rfl rfl rfl rfl (fun hg => by obtain ⟨hg0, _⟩ := hg; (try simp only [List.cons_append, List.nil_append, gvl_nil, gvl_t, gvl_f]); exact v_load_blk (e := 38) (fz := (0, 0)) (cs := (calC wk (.slice A (min ds.length 20) c)).toArray) Tryd.underlying38 rfl rfl (.head _) (by rw [calC_size hwk]; exact sz38)) ?_
  refine x_call_ifb [] rfl rfl rfl rfl rfl Tryd.func30 (by kernel_rfl) (fun hg => by obtain ⟨hg0, _⟩ := hg; (try simp only [List.cons_append, List.nil_append, gvl_nil, gvl_t, gvl_f]); refine ⟨_, rfl, ?_⟩; exact fun w1 hw1 => c30 (wk := wk) (v := (.slice A (min ds.length 20) c))  w1 (htk.keep (Kept.later (hw1.base (by simp)))) hwk) ?_
  intro b36 hb36
  refine x_ifb [] rfl rfl rfl rfl rfl (fun hg => by obtain ⟨hg0, _⟩ := hg; (try simp only [List.cons_append, List.nil_append, gvl_nil, gvl_t, gvl_f]); exact v_beql rfl rfl Tryd.underlying4) ?_
  intro b37 hb37
  obtain rfl : b37 = true := by rw [hb37, hb34, hb36]; exact beq_self_eq_true _
  refine x_bool rfl rfl rfl (v_and rfl rfl) ?_
  intro b38 hb38
  obtain rfl : b38 = true := hb38
  refine x_val rfl rfl rfl (v_move rfl) ?_
  refine x_if [] rfl rfl rfl rfl rfl (fun hg => by obtain ⟨hg0, _⟩ := hg; (try simp only [List.cons_append, List.nil_append, gvl_nil, gvl_t, gvl_f]); exact v_load_blk (e := 38) (fz := (0, 0)) (cs := (calC wk (.slice A (min ds.length 20) c)).toArray) Tryd.underlying38 rfl rfl (.head _) (by rw [calC_size hwk]; exact sz38)) ?_
  refine x_if [] rfl rfl rfl rfl rfl (fun hg => by obtain ⟨hg0, _⟩ := hg; (try simp only [List.cons_append, List.nil_append, gvl_nil, gvl_t, gvl_f]); exact v_move rfl) ?_
  refine x_call_ifb [] rfl rfl rfl rfl rfl Tryd.func24 (by kernel_rfl) (fun hg => by obtain ⟨hg0, _⟩ := hg; (try simp only [List.cons_append, List.nil_append, gvl_nil, gvl_t, gvl_f]); refine ⟨_, rfl, ?_⟩; exact fun w1 hw1 => c24 (wk := wk) (v := (.slice A (min ds.length 20) c)) _ w1 (htk.keep (Kept.later (hw1.base (by simp)))) hwk) ?_
  intro b42 hb42
  refine x_if [] rfl rfl rfl rfl rfl (fun hg => by obtain ⟨hg0, _⟩ := hg; (try simp only [List.cons_append, List.nil_append, gvl_nil, gvl_t, gvl_f]); exact v_load_blk (e := 38) (fz := (0, 0)) (cs := (calC wk (.slice A (min ds.length 20) c)).toArray) Tryd.underlying38 rfl rfl (.head _) (by rw [calC_size hwk]; exact sz38)) ?_
  refine x_if [] rfl rfl rfl rfl rfl (fun hg => by obtain ⟨hg0, _⟩ := hg; (try simp only [List.cons_append, List.nil_append, gvl_nil, gvl_t, gvl_f]); exact v_move rfl) ?_
  refine x_call_ifb [] rfl rfl rfl rfl rfl Tryd.func32 (by kernel_rfl) (fun hg => by obtain ⟨hg0, _⟩ := hg; (try simp only [List.cons_append, List.nil_append, gvl_nil, gvl_t, gvl_f]); refine ⟨_, rfl, ?_⟩; exact fun w1 hw1 => c32 (wk := wk) (v := (.slice A (min ds.length 20) c)) _ w1 (htk.keep (Kept.later (hw1.base (by simp)))) hwk) ?_
  intro b45 hb45
  refine x_ifb [] rfl rfl rfl rfl rfl (fun hg => by obtain ⟨hg0, _⟩ := hg; (try simp only [List.cons_append, List.nil_append, gvl_nil, gvl_t, gvl_f]); exact v_beql rfl rfl Tryd.underlying4) ?_
  intro b46 hb46
  obtain rfl : b46 = true := by rw [hb46, hb42, hb45]; exact beq_self_eq_true _
  refine x_bool rfl rfl rfl (v_and rfl rfl) ?_
  intro b47 hb47
  obtain rfl : b47 = true := hb47
  refine x_val rfl rfl rfl (v_move rfl) ?_
  refine x_if [] rfl rfl rfl rfl rfl (fun hg => by obtain ⟨hg0, _⟩ := hg; (try simp only [List.cons_append, List.nil_append, gvl_nil, gvl_t, gvl_f]); exact v_move rfl) ?_
  refine x_if [] rfl rfl rfl rfl rfl (fun hg => by obtain ⟨hg0, _⟩ := hg; (try simp only [List.cons_append, List.nil_append, gvl_nil, gvl_t, gvl_f]); exact v_move rfl) ?_
  refine x_ifb [] rfl rfl rfl rfl rfl (fun hg => by obtain ⟨hg0, _⟩ := hg; (try simp only [List.cons_append, List.nil_append, gvl_nil, gvl_t, gvl_f]); exact v_eql rfl rfl) ?_
  intro b51 hb51
  obtain rfl : b51 = true := hb51.trans (decide_eq_true rfl)
  refine x_bool rfl rfl rfl (v_and rfl rfl) ?_
  intro b52 hb52
  obtain rfl : b52 = true := hb52
  refine x_val rfl rfl rfl (v_move rfl) ?_
  refine x_if [] rfl rfl rfl rfl rfl (fun hg => by obtain ⟨hg0, _⟩ := hg; (try simp only [List.cons_append, List.nil_append, gvl_nil, gvl_t, gvl_f]); exact v_move rfl) ?_
  refine x_if [] rfl rfl rfl rfl rfl (fun hg => by obtain ⟨hg0, _⟩ := hg; (try simp only [List.cons_append, List.nil_append, gvl_nil, gvl_t, gvl_f]); exact v_move rfl) ?_
  refine x_ifb [] rfl rfl rfl rfl rfl (fun hg => by obtain ⟨hg0, _⟩ := hg; (try simp only [List.cons_append, List.nil_append, gvl_nil, gvl_t, gvl_f]); exact v_beql rfl rfl Tryd.underlying4) ?_
  intro b56 hb56
  obtain rfl : b56 = true := by rw [hb56, hb24, hb30]; exact beq_self_eq_true _
  refine x_bool rfl rfl rfl (v_and rfl rfl) ?_
  intro b57 hb57
  obtain rfl : b57 = true := hb57
  refine x_val rfl rfl rfl (v_assign rfl) ?_
  refine x_end ?_
  refine t_norm ?_
  refine w_ret ?_
  refine ret1 rfl rfl (fun w' hm => ⟨?_, hm.base (by simp)⟩)
  rfl

end Go.Proofs.YtffdbbcmibamjaaDoor
