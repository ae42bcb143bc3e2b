/- Of the proofs of YtffdbbcmibamjaaDoor: Wx Wy, put together. -/
import Derived.Test.YtffdbbcmibamjaaDoorM4
import Derived.Test.YtffdbbcmibamjaaDoorM2
import Derived.Test.YtffdbbcmibamjaaDoorM1
import Derived.Test.YtffdbbcmibamjaaDoorM3
namespace Go.Proofs.YtffdbbcmibamjaaDoor
open Go.RowKit Go.PK
set_option linter.unusedVariables false
set_option linter.unusedSimpArgs false

theorem calC_puts {wk : List Bool} {v : Value} {A : Option Addr} {j c : Nat} (h : wk.length = 7) : List.take 7 (calC wk v) ++ (Value.slice A j c).cells.toList ++ List.drop (7 + 1) (calC wk v) = calC wk (.slice A j c) := by
  show List.take 7 (calC wk v) ++ [Value.slice A j c] ++ List.drop (7 + 1) (calC wk v) = _
  unfold calC
  rw [List.take_append_of_le_length (by simp [h]), List.take_of_length_le (by simp [h]), List.drop_eq_nil_of_le (by simp [h]), List.append_nil]
set_option maxRecDepth 100000 in
theorem c10 (u near : Int) {v : Value} {l : List Int} (w : World) (hu : 0 ≤ u ∧ u ≤ 255) (hn : in64 near) (hls : sliceRd (tyK .u8) (fun _ => True) w v l) (hL : LD w) :
    Calls Tryd.prog 10 #[.int .u8 u, .int .i64 near, v] w fun e w' => e = .returned (.bool true) ∧ Later w w' := by
  obtain ⟨A, c, rfl, hlc, hmx, hA⟩ := id hls
  obtain ⟨N, hN⟩ : ∃ N, N = near.tmod 3000000 := ⟨_, rfl⟩
  have hNr := tmod_bd near 3000000 (by decide)
  rw [← hN] at hNr
  refine enter (vs := [.int .u8 u, .int .i64 near, .slice A l.length c]) Tryd.func10 rfl Tryd.ntmps10 rfl ?_
  refine w_seq ?_
  refine rg_text ?_
  refine x_val rfl rfl rfl (v_assign rfl) ?_
  refine x_end ?_
  refine t_norm ?_
  refine w_seq ?_
  refine rg_text ?_
  refine x_callb rfl rfl rfl Tryd.func12 (by kernel_rfl) rfl (fun w1 hw1 => c12 w1 (hL.later (hw1.base (by simp)))) ?_
  intro b16 hb16
  obtain rfl : b16 = true := hb16
  refine x_val rfl rfl rfl (v_assign rfl) ?_
  refine x_end ?_
  refine t_norm ?_
  refine w_seq ?_
  refine rg_text ?_
  refine x_val rfl rfl rfl (v_move rfl) ?_
  refine x_val rfl rfl rfl (v_move rfl) ?_
  refine x_val rfl rfl rfl (v_move rfl) ?_
  refine x_call rfl rfl rfl Tryd.func22 (by kernel_rfl) rfl (fun w1 hw1 => c22 _ near w1 hu (hls.keep (Kept.later (hw1.base (by simp))))) ?_
  intro v20 wa20 wb20 hm20 hl20 hr20
  obtain ⟨V20, rfl, hrd20⟩ := hr20
  obtain ⟨A20, c20, hV20, _⟩ := id hrd20
  subst hV20
  refine x_alloc rfl rfl rfl zr38 ?_
  intro p8
  refine x_store0 [] rfl rfl rfl rfl sz38 rfl rfl ?_
  refine x_end ?_
  refine t_norm ?_
  refine w_seq ?_
  refine rg_text ?_
  refine x_val rfl rfl rfl (v_load_blk (e := 38) (fz := (0, 0)) (cs := (calC (wkOf u) (.slice A20 (madeD near l).length c20)).toArray) Tryd.underlying38 rfl rfl (.head _) (by rw [calC_size (wkOf_len u)]; exact sz38)) ?_
  refine x_call rfl rfl rfl Tryd.func28 (by kernel_rfl) rfl (fun w1 hw1 => c28 (wk := wkOf u) (v := (.slice A20 (madeD near l).length c20)) w1 (keep_new hrd20 hw1 (.head _) hm20) (wkOf_len u) (madeD_len near l)) ?_
  intro v22 wa22 wb22 hm22 hl22 hr22
  obtain ⟨V22, rfl, hrd22⟩ := hr22
  obtain ⟨A22, cc22, hV22, _⟩ := id hrd22
  subst hV22
  refine x_alloc rfl rfl rfl zr38 ?_
  intro p9
  refine x_store0 [] rfl rfl rfl rfl sz38 rfl rfl ?_
  refine x_end ?_
  refine t_norm ?_
  refine w_seq ?_
  refine w_seq ?_
  refine rg_draw 10 [(true, 0), (true, 1), (true, 2), (true, 3), (true, 4), (true, 5), (true, 6), (true, 7), (true, 8), (true, 9)] (by kernel_rfl) (by kernel_rfl) ?_
  refine x_val rfl rfl rfl (v_load_blk (e := 38) (fz := (0, 0)) (cs := (calC (wkOf u) (.slice A20 (madeD near l).length c20)).toArray) Tryd.underlying38 rfl rfl (.tail _ (.head _)) (by rw [calC_size (wkOf_len u)]; exact sz38)) ?_
  refine x_callb rfl rfl rfl Tryd.func29 (by kernel_rfl) rfl (fun w1 hw1 => c29 (wk := wkOf u) (v := (.slice A20 (madeD near l).length c20))  w1 (keep_new hrd20 hw1 (.tail _ (.head _)) hm20) (wkOf_len u)) ?_
  intro b24 hb24
  refine x_val rfl rfl rfl (v_load_blk (e := 38) (fz := (0, 0)) (cs := (calC (wkOf u) (.slice A20 (madeD near l).length c20)).toArray) Tryd.underlying38 rfl rfl (.tail _ (.head _)) (by rw [calC_size (wkOf_len u)]; exact sz38)) ?_
  refine x_callb rfl rfl rfl Tryd.func30 (by kernel_rfl) rfl (fun w1 hw1 => c30 (wk := wkOf u) (v := (.slice A20 (madeD near l).length c20))  w1 (keep_new hrd20 hw1 (.tail _ (.head _)) hm20) (wkOf_len u)) ?_
  intro b26 hb26
  refine x_bool rfl rfl rfl (v_bneq rfl rfl Tryd.underlying4) ?_
  intro b27 hb27
  refine x_val rfl rfl rfl (v_move rfl) ?_
  refine x_if [] rfl rfl rfl rfl rfl (fun hg => by obtain ⟨hg0, _⟩ := hg; subst hg0; (try simp only [List.cons_append, List.nil_append, gvl_nil, gvl_t, gvl_f]); exact v_load_blk (e := 38) (fz := (0, 0)) (cs := (calC (wkOf u) (.slice A22 (srtD (madeD near l)).length cc22)).toArray) Tryd.underlying38 rfl rfl (.head _) (by rw [calC_size (wkOf_len u)]; exact sz38)) ?_
  refine x_call_ifb [] rfl rfl rfl rfl rfl Tryd.func29 (by kernel_rfl) (fun hg => by obtain ⟨hg0, _⟩ := hg; subst hg0; (try simp only [List.cons_append, List.nil_append, gvl_nil, gvl_t, gvl_f]); refine ⟨_, rfl, ?_⟩; exact fun w1 hw1 => c29 (wk := wkOf u) (v := (.slice A22 (srtD (madeD near l)).length cc22))  w1 (keep_new hrd22 hw1 (.head _) hm22) (wkOf_len u)) ?_
  intro b30 hb30
  refine x_ifb [] rfl rfl rfl rfl rfl (fun hg => by obtain ⟨hg0, _⟩ := hg; subst hg0; (try simp only [List.cons_append, List.nil_append, gvl_nil, gvl_t, gvl_f]); exact v_not rfl) ?_
  intro b31 hb31
  refine x_bool rfl rfl rfl (v_or rfl rfl) ?_
  intro b32 hb32
  refine x_end ?_
  refine t_norm ?_
  refine w_cond rfl (fun hc32 => ?_) (fun hc32 => ?_)
  · rw [hb32, hb31, hb30, hb27, hb26, hb24, srtD_right] at hc32; simp at hc32
  · skip
    refine w_skip ?_
    refine t_norm ?_
    refine w_seq ?_
    refine w_seq ?_
    refine rg_text ?_
    refine x_val rfl rfl rfl (v_assign rfl) ?_
    refine x_end ?_
    refine t_norm ?_
    refine w_block ?_
    refine w_loop (σ := Int) (fun k => -15 ≤ k ∧ k ≤ 62) (fun k => [(1, Value.int .i64 near), (2, .slice A l.length c), (7, Value.bool true), (8, .pointer (some ⟨p8, 0, none⟩)), (9, .pointer (some ⟨p9, 0, none⟩)), (10, Value.int .i64 k)]) (fun k => [(p9, Obj.cells (calC (wkOf u) (.slice A22 (srtD (madeD near l)).length cc22)).toArray 38), (p8, Obj.cells (calC (wkOf u) (.slice A20 (madeD near l).length c20)).toArray 38)]) (fun k => [(wb22, notOwn [(p8, Obj.cells (calC (wkOf u) (.slice A20 (madeD near l).length c20)).toArray 38)]), (wb20, notOwn []), (w, fun _ => True)]) (fun k => (63 - k).toNat) (-15) (⟨by decide, by decide⟩) (l_start (by repeat (first | exact Sub.nil | refine Sub.cons rfl ?_)) (fun _ h => h)) ?_
    rintro k ⟨hk1, hk2⟩
    refine w_state ([(1, Value.int .i64 near), (2, .slice A l.length c), (7, Value.bool true), (8, .pointer (some ⟨p8, 0, none⟩)), (9, .pointer (some ⟨p9, 0, none⟩)), (10, Value.int .i64 k)]) ([(p9, Obj.cells (calC (wkOf u) (.slice A22 (srtD (madeD near l)).length cc22)).toArray 38), (p8, Obj.cells (calC (wkOf u) (.slice A20 (madeD near l).length c20)).toArray 38)]) ([(wb22, notOwn [(p8, Obj.cells (calC (wkOf u) (.slice A20 (madeD near l).length c20)).toArray 38)]), (wb20, notOwn []), (w, fun _ => True)]) ?_
    refine w_seq ?_
    refine w_seq ?_
    refine rg_text ?_
    refine x_val rfl rfl rfl (v_move rfl) ?_
    refine x_bool rfl rfl rfl (v_lss rfl rfl) ?_
    intro b34 hb34
    refine x_end ?_
    refine t_norm ?_
    refine w_cond rfl (fun hc34 => ?_) (fun hc34 => ?_)
    · simp only [hb34, decide_eq_true_eq, decide_eq_false_iff_not, Bool.and_eq_true, Bool.or_eq_true, Bool.and_eq_false_iff, Bool.or_eq_false_iff, Bool.not_eq_true', Bool.not_eq_false', ne_eq, Decidable.not_not] at hc34
      refine w_skip ?_
      refine t_norm ?_
      refine w_seq ?_
      refine w_block ?_
      refine w_seq ?_
      refine rg_text ?_
      refine x_val rfl rfl rfl (v_move rfl) ?_
      refine x_val (v := Value.int .i64 N) rfl rfl rfl (by rw [hN]; exact v_rem rfl rfl (by decide)) ?_
      refine x_val rfl rfl rfl (v_move rfl) ?_
      refine x_val rfl rfl rfl (v_addi rfl rfl rfl (by first | omega | (dsimp only; omega))) ?_
      refine x_val rfl rfl rfl (v_assign rfl) ?_
      refine x_end ?_
      refine t_norm ?_
      refine w_seq ?_
      refine rg_text ?_
      refine x_val rfl rfl rfl (v_load_blk (e := 38) (fz := (0, 0)) (cs := (calC (wkOf u) (.slice A20 (madeD near l).length c20)).toArray) Tryd.underlying38 rfl rfl (.tail _ (.head _)) (by rw [calC_size (wkOf_len u)]; exact sz38)) ?_
      refine x_val rfl rfl rfl (v_move rfl) ?_
      refine x_callv rfl rfl rfl Tryd.func23 (by kernel_rfl) rfl (fun w1 hw1 => c23 (wk := wkOf u) (v := (.slice A20 (madeD near l).length c20)) _ w1 (keep_new hrd20 hw1 (.tail _ (.head _)) hm20) (wkOf_len u) (by unfold in64; omega)) ?_
      refine x_val rfl rfl rfl (v_move rfl) ?_
      refine x_val rfl rfl rfl (v_extract rfl rfl) ?_
      refine x_bool rfl rfl rfl (v_extract rfl rfl) ?_
      intro b50 hb50
      refine x_val rfl rfl rfl (v_assign rfl) ?_
      refine x_val rfl rfl rfl (v_assign rfl) ?_
      refine x_end ?_
      refine t_norm ?_
      refine w_seq ?_
      refine rg_text ?_
      refine x_val rfl rfl rfl (v_load_blk (e := 38) (fz := (0, 0)) (cs := (calC (wkOf u) (.slice A20 (madeD near l).length c20)).toArray) Tryd.underlying38 rfl rfl (.tail _ (.head _)) (by rw [calC_size (wkOf_len u)]; exact sz38)) ?_
      refine x_val rfl rfl rfl (v_move rfl) ?_
      refine x_callv rfl rfl rfl Tryd.func31 (by kernel_rfl) rfl (fun w1 hw1 => c31 (wk := wkOf u) (v := (.slice A20 (madeD near l).length c20)) _ w1 (keep_new hrd20 hw1 (.tail _ (.head _)) hm20) (wkOf_len u) (by unfold in64; omega)) ?_
      refine x_val rfl rfl rfl (v_move rfl) ?_
      refine x_val rfl rfl rfl (v_extract rfl rfl) ?_
      refine x_bool rfl rfl rfl (v_extract rfl rfl) ?_
      intro b56 hb56
      refine x_val rfl rfl rfl (v_assign rfl) ?_
      refine x_val rfl rfl rfl (v_assign rfl) ?_
      refine x_end ?_
      refine t_norm ?_
      refine w_seq ?_
      refine rg_draw 26 [(true, 0), (true, 1), (true, 2), (true, 3), (true, 4), (true, 5), (true, 6), (true, 7), (true, 8), (true, 9), (true, 10), (true, 11), (true, 12), (true, 13), (true, 14), (true, 15), (true, 16), (true, 17), (true, 18), (true, 19), (true, 20), (true, 21), (true, 22), (true, 23), (true, 24), (true, 25)] (by kernel_rfl) (by kernel_rfl) ?_
      refine x_val rfl rfl rfl (v_load_blk (e := 38) (fz := (0, 0)) (cs := (calC (wkOf u) (.slice A20 (madeD near l).length c20)).toArray) Tryd.underlying38 rfl rfl (.tail _ (.head _)) (by rw [calC_size (wkOf_len u)]; exact sz38)) ?_
      refine x_val rfl rfl rfl (v_move rfl) ?_
      refine x_callb rfl rfl rfl Tryd.func24 (by kernel_rfl) rfl (fun w1 hw1 => c24 (wk := wkOf u) (v := (.slice A20 (madeD near l).length c20)) _ w1 (keep_new hrd20 hw1 (.tail _ (.head _)) hm20) (wkOf_len u)) ?_
      intro b59 hb59
      refine x_val rfl rfl rfl (v_load_blk (e := 38) (fz := (0, 0)) (cs := (calC (wkOf u) (.slice A20 (madeD near l).length c20)).toArray) Tryd.underlying38 rfl rfl (.tail _ (.head _)) (by rw [calC_size (wkOf_len u)]; exact sz38)) ?_
      refine x_val rfl rfl rfl (v_move rfl) ?_
      refine x_callb rfl rfl rfl Tryd.func32 (by kernel_rfl) rfl (fun w1 hw1 => c32 (wk := wkOf u) (v := (.slice A20 (madeD near l).length c20)) _ w1 (keep_new hrd20 hw1 (.tail _ (.head _)) hm20) (wkOf_len u)) ?_
      intro b62 hb62
      refine x_bool rfl rfl rfl (v_bneq rfl rfl Tryd.underlying4) ?_
      intro b63 hb63
      refine x_val rfl rfl rfl (v_move rfl) ?_
      refine x_if [] rfl rfl rfl rfl rfl (fun hg => by obtain ⟨hg0, _⟩ := hg; subst hg0; (try simp only [List.cons_append, List.nil_append, gvl_nil, gvl_t, gvl_f]); exact v_load_blk (e := 38) (fz := (0, 0)) (cs := (calC (wkOf u) (.slice A22 (srtD (madeD near l)).length cc22)).toArray) Tryd.underlying38 rfl rfl (.head _) (by rw [calC_size (wkOf_len u)]; exact sz38)) ?_
      refine x_if [] rfl rfl rfl rfl rfl (fun hg => by obtain ⟨hg0, _⟩ := hg; subst hg0; (try simp only [List.cons_append, List.nil_append, gvl_nil, gvl_t, gvl_f]); exact v_move rfl) ?_
      refine x_call_ifb [] rfl rfl rfl rfl rfl Tryd.func24 (by kernel_rfl) (fun hg => by obtain ⟨hg0, _⟩ := hg; subst hg0; (try simp only [List.cons_append, List.nil_append, gvl_nil, gvl_t, gvl_f]); refine ⟨_, rfl, ?_⟩; exact fun w1 hw1 => c24 (wk := wkOf u) (v := (.slice A22 (srtD (madeD near l)).length cc22)) _ w1 (keep_new hrd22 hw1 (.head _) hm22) (wkOf_len u)) ?_
      intro b67 hb67
      refine x_if [] rfl rfl rfl rfl rfl (fun hg => by obtain ⟨hg0, _⟩ := hg; subst hg0; (try simp only [List.cons_append, List.nil_append, gvl_nil, gvl_t, gvl_f]); exact v_load_blk (e := 38) (fz := (0, 0)) (cs := (calC (wkOf u) (.slice A20 (madeD near l).length c20)).toArray) Tryd.underlying38 rfl rfl (.tail _ (.head _)) (by rw [calC_size (wkOf_len u)]; exact sz38)) ?_
      refine x_if [] rfl rfl rfl rfl rfl (fun hg => by obtain ⟨hg0, _⟩ := hg; subst hg0; (try simp only [List.cons_append, List.nil_append, gvl_nil, gvl_t, gvl_f]); exact v_move rfl) ?_
      refine x_call_ifb [] rfl rfl rfl rfl rfl Tryd.func24 (by kernel_rfl) (fun hg => by obtain ⟨hg0, _⟩ := hg; subst hg0; (try simp only [List.cons_append, List.nil_append, gvl_nil, gvl_t, gvl_f]); refine ⟨_, rfl, ?_⟩; exact fun w1 hw1 => c24 (wk := wkOf u) (v := (.slice A20 (madeD near l).length c20)) _ w1 (keep_new hrd20 hw1 (.tail _ (.head _)) hm20) (wkOf_len u)) ?_
      intro b70 hb70
      refine x_ifb [] rfl rfl rfl rfl rfl (fun hg => by obtain ⟨hg0, _⟩ := hg; subst hg0; (try simp only [List.cons_append, List.nil_append, gvl_nil, gvl_t, gvl_f]); exact v_bneq rfl rfl Tryd.underlying4) ?_
      intro b71 hb71
      refine x_bool rfl rfl rfl (v_or rfl rfl) ?_
      intro b72 hb72
      refine x_val rfl rfl rfl (v_move rfl) ?_
      refine x_if [] rfl rfl rfl rfl rfl (fun hg => by obtain ⟨hg0, _⟩ := hg; subst hg0; (try simp only [List.cons_append, List.nil_append, gvl_nil, gvl_t, gvl_f]); exact v_move rfl) ?_
      refine x_if [] rfl rfl rfl rfl rfl (fun hg => by obtain ⟨hg0, _⟩ := hg; subst hg0; (try simp only [List.cons_append, List.nil_append, gvl_nil, gvl_t, gvl_f]); exact v_move rfl) ?_
      refine x_ifb [] rfl rfl rfl rfl rfl (fun hg => by obtain ⟨hg0, _⟩ := hg; subst hg0; (try simp only [List.cons_append, List.nil_append, gvl_nil, gvl_t, gvl_f]); exact v_neq rfl rfl) ?_
      intro b76 hb76
      refine x_bool rfl rfl rfl (v_or rfl rfl) ?_
      intro b77 hb77
      refine x_val rfl rfl rfl (v_move rfl) ?_
      refine x_if [] rfl rfl rfl rfl rfl (fun hg => by obtain ⟨hg0, _⟩ := hg; subst hg0; (try simp only [List.cons_append, List.nil_append, gvl_nil, gvl_t, gvl_f]); exact v_move rfl) ?_
      refine x_if [] rfl rfl rfl rfl rfl (fun hg => by obtain ⟨hg0, _⟩ := hg; subst hg0; (try simp only [List.cons_append, List.nil_append, gvl_nil, gvl_t, gvl_f]); exact v_move rfl) ?_
      refine x_ifb [] rfl rfl rfl rfl rfl (fun hg => by obtain ⟨hg0, _⟩ := hg; subst hg0; (try simp only [List.cons_append, List.nil_append, gvl_nil, gvl_t, gvl_f]); exact v_bneq rfl rfl Tryd.underlying4) ?_
      intro b81 hb81
      refine x_bool rfl rfl rfl (v_or rfl rfl) ?_
      intro b82 hb82
      refine x_end ?_
      refine t_norm ?_
      refine w_cond rfl (fun hc82 => ?_) (fun hc82 => ?_)
      · rw [hb82, hb81, hb77, hb76, hb72, hb71, hb67, hb70, hb63, hb62, hb59, hb50, hb56, srtD_open] at hc82; simp at hc82
      · skip
        refine w_skip ?_
        refine b_norm ?_
        refine t_norm ?_
        refine rg_text ?_
        refine x_val rfl rfl rfl (v_move rfl) ?_
        refine x_val rfl rfl rfl (v_addi rfl rfl rfl (by first | omega | (dsimp only; omega))) ?_
        refine x_val rfl rfl rfl (v_move rfl) ?_
        refine x_val rfl rfl rfl (v_len_slice Tryd.underlying35 rfl) ?_
        refine x_val rfl rfl rfl (v_rem rfl rfl (by decide)) ?_
        refine x_val rfl rfl rfl (v_addi rfl rfl rfl (by have := tmod_bd (l.length : Int) 3 (by decide); omega)) ?_
        refine x_val rfl rfl rfl (v_assign rfl) ?_
        refine x_end ?_
        have ht3 := tmod_bd (l.length : Int) 3 (by decide)
        have ht0 : 0 ≤ (l.length : Int).tmod 3 := Int.tmod_nonneg _ (by omega)
        exact l_norm (k + 1 + (l.length : Int).tmod 3) ⟨by omega, by omega⟩ (by omega) (by repeat (first | exact Sub.nil | refine Sub.cons rfl ?_)) (fun _ h => h)
    · simp only [hb34, decide_eq_true_eq, decide_eq_false_iff_not, Bool.and_eq_true, Bool.or_eq_true, Bool.and_eq_false_iff, Bool.or_eq_false_iff, Bool.not_eq_true', Bool.not_eq_false', ne_eq, Decidable.not_not] at hc34
      refine w_exit ?_
      refine t_exit ?_
      refine t_exit ?_
      refine b_hit ?_
      refine t_norm ?_
      refine w_seq ?_
      refine rg_text ?_
      refine x_val rfl rfl rfl (v_move rfl) ?_
      refine x_val rfl rfl rfl (v_assign rfl) ?_
      refine x_end ?_
      refine t_norm ?_
      refine w_ret ?_
      refine ret1 rfl rfl (fun w' hm => ⟨?_, hm.base (by simp)⟩)
      rfl
set_option maxRecDepth 100000 in
theorem c11 {v : Value} {ds : List Int} {wk : List Bool} (n : Int) (w : World) (hds : sliceRd tyI (fun _ => True) w v ds) (hwk : wk.length = 7) (hn : in64 n) (hL : LD w) :
    Calls Tryd.prog 11 #[.agg (calC wk v).toArray, .int .i64 n] w fun e w' => e = .returned (.bool true) ∧ Later w w' := by
  obtain ⟨A, c, rfl, hlc, hmx, hA⟩ := id hds
  have htk := hds.take (min ds.length 20) (by omega)
  refine enter (vs := [.agg (calC wk (.slice A ds.length c)).toArray, .int .i64 n]) Tryd.func11 rfl Tryd.ntmps11 rfl ?_
  refine w_seq ?_
  refine rg_text ?_
  refine x_box rfl rfl rfl rfl ?_
  intro p2
  refine x_val rfl rfl rfl (v_assign rfl) ?_
  refine x_end ?_
  refine t_norm ?_
  refine w_seq ?_
  refine rg_text ?_
  refine x_callb rfl rfl rfl Tryd.func12 (by kernel_rfl) rfl (fun w1 hw1 => c12 w1 (hL.later (hw1.base (by simp)))) ?_
  intro b10 hb10
  obtain rfl : b10 = true := hb10
  refine x_val rfl rfl rfl (v_assign rfl) ?_
  refine x_end ?_
  refine t_norm ?_
  refine w_seq ?_
  refine rg_text ?_
  refine x_val rfl rfl rfl (v_fieldAddr (off' := 7) Tryd.underlying38 rfl sz26 (by decide) rfl rfl) ?_
  refine x_val rfl rfl rfl (v_load Tryd.underlying26 rfl rfl (at_ownL (vs := calC wk (.slice A ds.length c)) (.head _) (calC_v hwk))) ?_
  refine x_val rfl rfl rfl (v_fieldAddr (off' := 7) Tryd.underlying38 rfl sz26 (by decide) rfl rfl) ?_
  refine x_val rfl rfl rfl (v_load Tryd.underlying26 rfl rfl (at_ownL (vs := calC wk (.slice A ds.length c)) (.head _) (calC_v hwk))) ?_
  refine x_val rfl rfl rfl (v_len_slice Tryd.underlying26 rfl) ?_
  refine x_val rfl rfl rfl (v_min rfl rfl) ?_
  refine x_val rfl rfl rfl (v_scut_to (j := (min ds.length 20)) Tryd.underlying26 sz3 rfl (congrArg (fun z : Int => some (Value.int .i64 z)) (show min (ds.length : Int) 20 = (((min ds.length 20) : Nat) : Int) by omega)) (by omega)) ?_
  refine x_val rfl rfl rfl (v_fieldAddr (off' := 7) Tryd.underlying38 rfl sz26 (by decide) rfl rfl) ?_
  refine x_store [] rfl rfl rfl rfl sz26 rfl (by rw [calC_len, hwk]; exact Nat.le_refl _) ?_
  refine x_end ?_
  refine t_norm ?_
  refine w_seq ?_
  refine rg_text ?_
  rw [calC_puts hwk]
  refine x_val rfl rfl rfl (v_load_blk (e := 38) (fz := (0, 0)) (cs := (calC wk (.slice A (min ds.length 20) c)).toArray) Tryd.underlying38 rfl rfl (.head _) (by rw [calC_size hwk]; exact sz38)) ?_
  refine x_val rfl rfl rfl (v_move rfl) ?_
  refine x_callv rfl rfl rfl Tryd.func23 (by kernel_rfl) rfl (fun w1 hw1 => c23 (wk := wk) (v := (.slice A (min ds.length 20) c)) _ w1 (htk.keep (Kept.later (hw1.base (by simp)))) hwk hn) ?_
  refine x_val rfl rfl rfl (v_move rfl) ?_
  refine x_val rfl rfl rfl (v_extract rfl rfl) ?_
  refine x_bool rfl rfl rfl (v_extract rfl rfl) ?_
  intro b24 hb24
  refine x_val rfl rfl rfl (v_assign rfl) ?_
  refine x_val rfl rfl rfl (v_assign rfl) ?_
  refine x_end ?_
  refine t_norm ?_
  refine w_seq ?_
  refine rg_text ?_
  refine x_val rfl rfl rfl (v_load_blk (e := 38) (fz := (0, 0)) (cs := (calC wk (.slice A (min ds.length 20) c)).toArray) Tryd.underlying38 rfl rfl (.head _) (by rw [calC_size hwk]; exact sz38)) ?_
  refine x_val rfl rfl rfl (v_move rfl) ?_
  refine x_callv rfl rfl rfl Tryd.func31 (by kernel_rfl) rfl (fun w1 hw1 => c31 (wk := wk) (v := (.slice A (min ds.length 20) c)) _ w1 (htk.keep (Kept.later (hw1.base (by simp)))) hwk hn) ?_
  refine x_val rfl rfl rfl (v_move rfl) ?_
  refine x_val rfl rfl rfl (v_extract rfl rfl) ?_
  refine x_bool rfl rfl rfl (v_extract rfl rfl) ?_
  intro b30 hb30
  refine x_val rfl rfl rfl (v_assign rfl) ?_
  refine x_val rfl rfl rfl (v_assign rfl) ?_
  refine x_end ?_
  refine t_norm ?_
  refine w_seq ?_
  refine rg_draw 28 [(true, 0), (true, 1), (true, 2), (true, 3), (true, 4), (true, 5), (true, 6), (true, 7), (true, 8), (true, 9), (true, 10), (true, 11), (true, 12), (true, 13), (true, 14), (true, 15), (true, 16), (true, 17), (true, 18), (true, 19), (true, 20), (true, 21), (true, 22), (true, 23), (true, 24), (true, 25), (true, 26), (true, 27)] (by kernel_rfl) (by kernel_rfl) ?_
  refine x_val rfl rfl rfl (v_move rfl) ?_
  refine x_val rfl rfl rfl (v_move rfl) ?_
  refine x_if [] rfl rfl rfl rfl rfl (fun hg => by obtain ⟨hg0, _⟩ := hg; (try simp only [List.cons_append, List.nil_append, gvl_nil, gvl_t, gvl_f]); exact v_load_blk (e := 38) (fz := (0, 0)) (cs := (calC wk (.slice A (min ds.length 20) c)).toArray) Tryd.underlying38 rfl rfl (.head _) (by rw [calC_size hwk]; exact sz38)) ?_
  refine x_call_ifb [] rfl rfl rfl rfl rfl Tryd.func29 (by kernel_rfl) (fun hg => by obtain ⟨hg0, _⟩ := hg; (try simp only [List.cons_append, List.nil_append, gvl_nil, gvl_t, gvl_f]); refine ⟨_, rfl, ?_⟩; exact fun w1 hw1 => c29 (wk := wk) (v := (.slice A (min ds.length 20) c))  w1 (htk.keep (Kept.later (hw1.base (by simp)))) hwk) ?_
  intro b34 hb34
  refine x_if [] rfl rfl rfl rfl rfl (fun hg => by obtain ⟨hg0, _⟩ := hg; (try simp only [List.cons_append, List.nil_append, gvl_nil, gvl_t, gvl_f]); exact v_load_blk (e := 38) (fz := (0, 0)) (cs := (calC wk (.slice A (min ds.length 20) c)).toArray) Tryd.underlying38 rfl rfl (.head _) (by rw [calC_size hwk]; exact sz38)) ?_
  refine x_call_ifb [] rfl rfl rfl rfl rfl Tryd.func30 (by kernel_rfl) (fun hg => by obtain ⟨hg0, _⟩ := hg; (try simp only [List.cons_append, List.nil_append, gvl_nil, gvl_t, gvl_f]); refine ⟨_, rfl, ?_⟩; exact fun w1 hw1 => c30 (wk := wk) (v := (.slice A (min ds.length 20) c))  w1 (htk.keep (Kept.later (hw1.base (by simp)))) hwk) ?_
  intro b36 hb36
  refine x_ifb [] rfl rfl rfl rfl rfl (fun hg => by obtain ⟨hg0, _⟩ := hg; (try simp only [List.cons_append, List.nil_append, gvl_nil, gvl_t, gvl_f]); exact v_beql rfl rfl Tryd.underlying4) ?_
  intro b37 hb37
  obtain rfl : b37 = true := by rw [hb37, hb34, hb36]; exact beq_self_eq_true _
  refine x_bool rfl rfl rfl (v_and rfl rfl) ?_
  intro b38 hb38
  obtain rfl : b38 = true := hb38
  refine x_val rfl rfl rfl (v_move rfl) ?_
  refine x_if [] rfl rfl rfl rfl rfl (fun hg => by obtain ⟨hg0, _⟩ := hg; (try simp only [List.cons_append, List.nil_append, gvl_nil, gvl_t, gvl_f]); exact v_load_blk (e := 38) (fz := (0, 0)) (cs := (calC wk (.slice A (min ds.length 20) c)).toArray) Tryd.underlying38 rfl rfl (.head _) (by rw [calC_size hwk]; exact sz38)) ?_
  refine x_if [] rfl rfl rfl rfl rfl (fun hg => by obtain ⟨hg0, _⟩ := hg; (try simp only [List.cons_append, List.nil_append, gvl_nil, gvl_t, gvl_f]); exact v_move rfl) ?_
  refine x_call_ifb [] rfl rfl rfl rfl rfl Tryd.func24 (by kernel_rfl) (fun hg => by obtain ⟨hg0, _⟩ := hg; (try simp only [List.cons_append, List.nil_append, gvl_nil, gvl_t, gvl_f]); refine ⟨_, rfl, ?_⟩; exact fun w1 hw1 => c24 (wk := wk) (v := (.slice A (min ds.length 20) c)) _ w1 (htk.keep (Kept.later (hw1.base (by simp)))) hwk) ?_
  intro b42 hb42
  refine x_if [] rfl rfl rfl rfl rfl (fun hg => by obtain ⟨hg0, _⟩ := hg; (try simp only [List.cons_append, List.nil_append, gvl_nil, gvl_t, gvl_f]); exact v_load_blk (e := 38) (fz := (0, 0)) (cs := (calC wk (.slice A (min ds.length 20) c)).toArray) Tryd.underlying38 rfl rfl (.head _) (by rw [calC_size hwk]; exact sz38)) ?_
  refine x_if [] rfl rfl rfl rfl rfl (fun hg => by obtain ⟨hg0, _⟩ := hg; (try simp only [List.cons_append, List.nil_append, gvl_nil, gvl_t, gvl_f]); exact v_move rfl) ?_
  refine x_call_ifb [] rfl rfl rfl rfl rfl Tryd.func32 (by kernel_rfl) (fun hg => by obtain ⟨hg0, _⟩ := hg; (try simp only [List.cons_append, List.nil_append, gvl_nil, gvl_t, gvl_f]); refine ⟨_, rfl, ?_⟩; exact fun w1 hw1 => c32 (wk := wk) (v := (.slice A (min ds.length 20) c)) _ w1 (htk.keep (Kept.later (hw1.base (by simp)))) hwk) ?_
  intro b45 hb45
  refine x_ifb [] rfl rfl rfl rfl rfl (fun hg => by obtain ⟨hg0, _⟩ := hg; (try simp only [List.cons_append, List.nil_append, gvl_nil, gvl_t, gvl_f]); exact v_beql rfl rfl Tryd.underlying4) ?_
  intro b46 hb46
  obtain rfl : b46 = true := by rw [hb46, hb42, hb45]; exact beq_self_eq_true _
  refine x_bool rfl rfl rfl (v_and rfl rfl) ?_
  intro b47 hb47
  obtain rfl : b47 = true := hb47
  refine x_val rfl rfl rfl (v_move rfl) ?_
  refine x_if [] rfl rfl rfl rfl rfl (fun hg => by obtain ⟨hg0, _⟩ := hg; (try simp only [List.cons_append, List.nil_append, gvl_nil, gvl_t, gvl_f]); exact v_move rfl) ?_
  refine x_if [] rfl rfl rfl rfl rfl (fun hg => by obtain ⟨hg0, _⟩ := hg; (try simp only [List.cons_append, List.nil_append, gvl_nil, gvl_t, gvl_f]); exact v_move rfl) ?_
  refine x_ifb [] rfl rfl rfl rfl rfl (fun hg => by obtain ⟨hg0, _⟩ := hg; (try simp only [List.cons_append, List.nil_append, gvl_nil, gvl_t, gvl_f]); exact v_eql rfl rfl) ?_
  intro b51 hb51
  obtain rfl : b51 = true := hb51.trans (decide_eq_true rfl)
  refine x_bool rfl rfl rfl (v_and rfl rfl) ?_
  intro b52 hb52
  obtain rfl : b52 = true := hb52
  refine x_val rfl rfl rfl (v_move rfl) ?_
  refine x_if [] rfl rfl rfl rfl rfl (fun hg => by obtain ⟨hg0, _⟩ := hg; (try simp only [List.cons_append, List.nil_append, gvl_nil, gvl_t, gvl_f]); exact v_move rfl) ?_
  refine x_if [] rfl rfl rfl rfl rfl (fun hg => by obtain ⟨hg0, _⟩ := hg; (try simp only [List.cons_append, List.nil_append, gvl_nil, gvl_t, gvl_f]); exact v_move rfl) ?_
  refine x_ifb [] rfl rfl rfl rfl rfl (fun hg => by obtain ⟨hg0, _⟩ := hg; (try simp only [List.cons_append, List.nil_append, gvl_nil, gvl_t, gvl_f]); exact v_beql rfl rfl Tryd.underlying4) ?_
  intro b56 hb56
  obtain rfl : b56 = true := by rw [hb56, hb24, hb30]; exact beq_self_eq_true _
  refine x_bool rfl rfl rfl (v_and rfl rfl) ?_
  intro b57 hb57
  obtain rfl : b57 = true := hb57
  refine x_val rfl rfl rfl (v_assign rfl) ?_
  refine x_end ?_
  refine t_norm ?_
  refine w_ret ?_
  refine ret1 rfl rfl (fun w' hm => ⟨?_, hm.base (by simp)⟩)
  rfl

end Go.Proofs.YtffdbbcmibamjaaDoor

namespace Go.Proofs.YtffdbbcmibamjaaDoor
open Go.RowKit Go.PK
set_option linter.unusedVariables false
set_option linter.unusedSimpArgs false

theorem u16_i64 {q : Int} (h : 0 ≤ q ∧ q ≤ 65535) : IntKind.i64.wrap q = q := by rw [IntKind.wrap_i64]; omega
theorem tmod_r {a m : Int} (h : 0 ≤ a) (hm : 0 < m) : 0 ≤ a.tmod m ∧ a.tmod m < m := ⟨Int.tmod_nonneg _ h, Int.tmod_lt_of_pos _ hm⟩
set_option maxRecDepth 100000 in
theorem c9 (s : ByteArray) (q0 q1 q2 x0 x1 : Int) (w : World) (hs : okS s) (hq0 : 0 ≤ q0 ∧ q0 ≤ 65535) (hq1 : 0 ≤ q1 ∧ q1 ≤ 65535) (hq2 : 0 ≤ q2 ∧ q2 ≤ 65535) (hx0 : 0 ≤ x0 ∧ x0 ≤ 255) (hx1 : 0 ≤ x1 ∧ x1 ≤ 255) (hL : LD w) :
    Calls Tryd.prog 9 #[.string s, .agg #[.int .u16 q0, .int .u16 q1, .int .u16 q2], .agg #[.int .u8 x0, .int .u8 x1]] w fun e w' => e = .returned (.bool true) ∧ Later w w' := by
  have r0 := tmod_r (m := 10000) hq0.1 (by decide)
  have r1 := tmod_r (m := 15) hq1.1 (by decide)
  have r2 := tmod_r (m := 34) hq2.1 (by decide)
  have r1b := tmod_r (m := 10) r1.1 (by decide)
  have r2b := tmod_r (m := 10) r2.1 (by decide)
  refine enter (vs := [.string s, .agg #[.int .u16 q0, .int .u16 q1, .int .u16 q2], .agg #[.int .u8 x0, .int .u8 x1]]) Tryd.func9 rfl Tryd.ntmps9 rfl ?_
  refine w_seq ?_
  refine rg_text ?_
  refine x_box rfl rfl rfl rfl ?_
  intro p4
  refine x_box rfl rfl rfl rfl ?_
  intro p5
  refine x_val rfl rfl rfl (v_assign rfl) ?_
  refine x_end ?_
  refine t_norm ?_
  refine w_seq ?_
  refine rg_text ?_
  refine x_callb rfl rfl rfl Tryd.func12 (by kernel_rfl) rfl (fun w1 hw1 => c12 w1 (hL.later (hw1.base (by simp)))) ?_
  intro b23 hb23
  obtain rfl : b23 = true := hb23
  refine x_val rfl rfl rfl (v_assign rfl) ?_
  refine x_end ?_
  refine t_norm ?_
  refine w_seq ?_
  refine rg_text ?_
  refine x_buildSliceL rfl rfl rfl Tryd.underlying35 sz5 zr5 rfl rfl rfl ?_
  intro p24
  refine x_mark (cs := byC [48, 48, 48, 48, 45, 48, 48, 45, 48, 48]) [] rfl rfl Tryd.underlying35 Tryd.underlying5 rfl rfl ?_
  refine x_val rfl rfl rfl (v_assign rfl) ?_
  refine x_end ?_
  refine t_norm ?_
  refine w_seq ?_
  refine rg_text ?_
  refine x_val rfl rfl rfl (v_indexArr (j := 0) (off' := 0) Tryd.underlying45 sz44 rfl rfl (by first | omega | (dsimp only; omega)) rfl) ?_
  refine x_val rfl rfl rfl (v_load Tryd.underlying44 rfl rfl (by first | exact at_ownL (.head _) rfl | exact at_ownL (.tail _ (.head _)) rfl | exact at_ownL (.tail _ (.tail _ (.head _))) rfl | (apply at_ownL; ((repeat (first | exact List.Mem.head _ | apply List.Mem.tail | apply List.mem_append_right))); rfl) | (refine at_ro (by first | exact .head _ | exact .tail _ (.head _) | exact .tail _ (.tail _ (.head _)) | simp) ?_ (by assumption); trivial))) ?_
  refine x_val rfl rfl rfl (v_conv Tryd.underlying44 Tryd.underlying3 rfl) ?_
  rw [u16_i64 hq0]
  refine x_val rfl rfl rfl (v_rem rfl rfl (by decide)) ?_
  refine x_val rfl rfl rfl (v_indexArr (j := 1) (off' := 1) Tryd.underlying45 sz44 rfl rfl (by first | omega | (dsimp only; omega)) rfl) ?_
  refine x_val rfl rfl rfl (v_load Tryd.underlying44 rfl rfl (by first | exact at_ownL (.head _) rfl | exact at_ownL (.tail _ (.head _)) rfl | exact at_ownL (.tail _ (.tail _ (.head _))) rfl | (apply at_ownL; ((repeat (first | exact List.Mem.head _ | apply List.Mem.tail | apply List.mem_append_right))); rfl) | (refine at_ro (by first | exact .head _ | exact .tail _ (.head _) | exact .tail _ (.tail _ (.head _)) | simp) ?_ (by assumption); trivial))) ?_
  refine x_val rfl rfl rfl (v_conv Tryd.underlying44 Tryd.underlying3 rfl) ?_
  rw [u16_i64 hq1]
  refine x_val rfl rfl rfl (v_rem rfl rfl (by decide)) ?_
  refine x_val rfl rfl rfl (v_indexArr (j := 2) (off' := 2) Tryd.underlying45 sz44 rfl rfl (by first | omega | (dsimp only; omega)) rfl) ?_
  refine x_val rfl rfl rfl (v_load Tryd.underlying44 rfl rfl (by first | exact at_ownL (.head _) rfl | exact at_ownL (.tail _ (.head _)) rfl | exact at_ownL (.tail _ (.tail _ (.head _))) rfl | (apply at_ownL; ((repeat (first | exact List.Mem.head _ | apply List.Mem.tail | apply List.mem_append_right))); rfl) | (refine at_ro (by first | exact .head _ | exact .tail _ (.head _) | exact .tail _ (.tail _ (.head _)) | simp) ?_ (by assumption); trivial))) ?_
  refine x_val rfl rfl rfl (v_conv Tryd.underlying44 Tryd.underlying3 rfl) ?_
  rw [u16_i64 hq2]
  refine x_val rfl rfl rfl (v_rem rfl rfl (by decide)) ?_
  refine x_val rfl rfl rfl (v_buildArr Tryd.underlying47 zr47 sz3 rfl rfl) ?_
  refine x_alloc rfl rfl rfl zr47 ?_
  intro p9
  refine x_store0 [] rfl rfl rfl rfl sz47 rfl rfl ?_
  refine x_end ?_
  refine t_norm ?_
  refine w_seq ?_
  refine w_seq ?_
  refine rg_text ?_
  refine x_val rfl rfl rfl (v_assign rfl) ?_
  refine x_end ?_
  refine t_norm ?_
  refine w_block ?_
  refine w_loop (σ := Int × Int × List UInt8) (fun x => (-1 ≤ x.1 ∧ x.1 ≤ 3) ∧ (0 ≤ x.2.1 ∧ x.2.1 ≤ 9999) ∧ x.2.2.length = 10) (fun x => [(0, Value.string s), (4, .pointer (some ⟨p4, 0, none⟩)), (5, .pointer (some ⟨p5, 0, none⟩)), (7, Value.bool true), (8, .slice (some ⟨p24, 0, none⟩) 10 10), (9, .pointer (some ⟨p9, 0, none⟩)), (10, Value.int .i64 x.1)]) (fun x => [(p9, Obj.cells #[Value.int .i64 x.2.1, .int .i64 (q1.tmod 15), .int .i64 (q2.tmod 34)] 47), (p24, Obj.cells (byC x.2.2).toArray 5 (10, 11)), (p5, Obj.cells #[.int .u8 x0, .int .u8 x1] 46), (p4, Obj.cells #[.int .u16 q0, .int .u16 q1, .int .u16 q2] 45)]) (fun x => [(w, fun _ => True)]) (fun x => (x.1 + 1).toNat) ((3, q0.tmod 10000, [48, 48, 48, 48, 45, 48, 48, 45, 48, 48])) (⟨⟨by dsimp only; decide, by dsimp only; decide⟩, ⟨by dsimp only; omega, by dsimp only; omega⟩, rfl⟩) (l_start (by repeat (first | exact Sub.nil | refine Sub.cons rfl ?_)) (fun _ h => h)) ?_
  rintro ⟨k, a, bs⟩ ⟨⟨hk1, hk2⟩, ⟨ha1, ha2⟩, hbl⟩
  refine w_state ([(0, Value.string s), (4, .pointer (some ⟨p4, 0, none⟩)), (5, .pointer (some ⟨p5, 0, none⟩)), (7, Value.bool true), (8, .slice (some ⟨p24, 0, none⟩) 10 10), (9, .pointer (some ⟨p9, 0, none⟩)), (10, Value.int .i64 k)]) ([(p9, Obj.cells #[Value.int .i64 a, .int .i64 (q1.tmod 15), .int .i64 (q2.tmod 34)] 47), (p24, Obj.cells (byC bs).toArray 5 (10, 11)), (p5, Obj.cells #[.int .u8 x0, .int .u8 x1] 46), (p4, Obj.cells #[.int .u16 q0, .int .u16 q1, .int .u16 q2] 45)]) ([(w, fun _ => True)]) ?_
  dsimp only at hk1 hk2 ha1 ha2 hbl
  refine w_seq ?_
  refine w_seq ?_
  refine rg_text ?_
  refine x_val rfl rfl rfl (v_move rfl) ?_
  refine x_bool rfl rfl rfl (v_geq rfl rfl) ?_
  intro b40 hb40
  refine x_end ?_
  refine t_norm ?_
  refine w_cond rfl (fun hc40 => ?_) (fun hc40 => ?_)
  · simp only [hb40, decide_eq_true_eq, decide_eq_false_iff_not, Bool.and_eq_true, Bool.or_eq_true, Bool.and_eq_false_iff, Bool.or_eq_false_iff, Bool.not_eq_true', Bool.not_eq_false', ne_eq, Decidable.not_not] at hc40
    have hk0 : 0 ≤ k := by omega
    have htm := tmod_r (m := 10) ha1 (by decide)
    refine w_skip ?_
    refine t_norm ?_
    refine w_seq ?_
    refine w_block ?_
    refine w_seq ?_
    refine rg_text ?_
    refine x_val rfl rfl rfl (v_move rfl) ?_
    refine x_val rfl rfl rfl (v_move rfl) ?_
    refine x_val rfl rfl rfl (v_indexArr (j := 0) (off' := 0) Tryd.underlying47 sz3 rfl rfl (by first | omega | (dsimp only; omega)) rfl) ?_
    refine x_val rfl rfl rfl (v_load Tryd.underlying3 rfl rfl (by first | exact at_ownL (.head _) rfl | exact at_ownL (.tail _ (.head _)) rfl | exact at_ownL (.tail _ (.tail _ (.head _))) rfl | (apply at_ownL; ((repeat (first | exact List.Mem.head _ | apply List.Mem.tail | apply List.mem_append_right))); rfl) | (refine at_ro (by first | exact .head _ | exact .tail _ (.head _) | exact .tail _ (.tail _ (.head _)) | simp) ?_ (by assumption); trivial))) ?_
    refine x_val rfl rfl rfl (v_rem rfl rfl (by decide)) ?_
    refine x_val rfl rfl rfl (v_addi rfl rfl rfl (by first | omega | (dsimp only; omega))) ?_
    refine x_val (v := Value.int .u8 ((u8of (48 + a.tmod 10)).toNat : Nat)) rfl rfl rfl (by rw [← u8of_wrap (48 + a.tmod 10)]; exact v_conv Tryd.underlying3 Tryd.underlying5 rfl) ?_
    refine x_val rfl rfl rfl (v_indexAddr (j := k.toNat) (off' := k.toNat) Tryd.underlying35 sz5 rfl (congrArg (fun z : Int => some (Value.int .i64 z)) (show k = ((k.toNat : Nat) : Int) by omega)) (by omega) (by omega)) ?_
    refine x_storeT (cs := byC (bs)) (off := k.toNat) [(p9, _)] rfl rfl rfl rfl sz5 rfl (by rw [byC_len]; first | omega | (simp only [List.length_set]; omega)) (show k.toNat + 1 ≤ 10 by omega) ?_
    rw [byC_set (by first | omega | (simp only [List.length_set]; omega))]
    refine x_end ?_
    refine t_norm ?_
    refine rg_text ?_
    refine x_val rfl rfl rfl (v_indexArr (j := 0) (off' := 0) Tryd.underlying47 sz3 rfl rfl (by first | omega | (dsimp only; omega)) rfl) ?_
    refine x_val rfl rfl rfl (v_load Tryd.underlying3 rfl rfl (by first | exact at_ownL (.head _) rfl | exact at_ownL (.tail _ (.head _)) rfl | exact at_ownL (.tail _ (.tail _ (.head _))) rfl | (apply at_ownL; ((repeat (first | exact List.Mem.head _ | apply List.Mem.tail | apply List.mem_append_right))); rfl) | (refine at_ro (by first | exact .head _ | exact .tail _ (.head _) | exact .tail _ (.tail _ (.head _)) | simp) ?_ (by assumption); trivial))) ?_
    refine x_val rfl rfl rfl (v_quoi (c := a / 10) rfl rfl (by decide) (Int.tdiv_eq_ediv_of_nonneg (by omega)) (by omega)) ?_
    refine x_val rfl rfl rfl (v_indexArr (j := 0) (off' := 0) Tryd.underlying47 sz3 rfl rfl (by first | omega | (dsimp only; omega)) rfl) ?_
    refine x_store [] rfl rfl rfl rfl sz3 rfl (by first | decide | simp) ?_
    refine x_end ?_
    refine b_norm ?_
    refine t_norm ?_
    refine rg_text ?_
    refine x_val rfl rfl rfl (v_move rfl) ?_
    refine x_val rfl rfl rfl (v_subi rfl rfl rfl (by first | omega | (dsimp only; omega))) ?_
    refine x_val rfl rfl rfl (v_assign rfl) ?_
    refine x_end ?_
    exact l_norm (k - 1, a / 10, bs.set k.toNat (u8of (48 + a.tmod 10))) ⟨⟨by dsimp only; omega, by dsimp only; omega⟩, ⟨by dsimp only; omega, by dsimp only; omega⟩, by dsimp only; rw [List.length_set]; exact hbl⟩ (by simp only; omega) (by repeat (first | exact Sub.nil | refine Sub.cons rfl ?_)) (fun _ h => h)
  · simp only [hb40, decide_eq_true_eq, decide_eq_false_iff_not, Bool.and_eq_true, Bool.or_eq_true, Bool.and_eq_false_iff, Bool.or_eq_false_iff, Bool.not_eq_true', Bool.not_eq_false', ne_eq, Decidable.not_not] at hc40
    refine w_exit ?_
    refine t_exit ?_
    refine t_exit ?_
    refine b_hit ?_
    refine t_norm ?_
    refine w_seq ?_
    refine rg_inv ([(p9, Obj.cells #[Value.int .i64 a, .int .i64 (q1.tmod 15), .int .i64 (q2.tmod 34)] 47), (p5, Obj.cells #[.int .u8 x0, .int .u8 x1] 46), (p4, Obj.cells #[.int .u16 q0, .int .u16 q1, .int .u16 q2] 45)]) 32 (.flt 0 (.flt 1 (.flt 2 (.flt 3 (.flt 4 (.flt 5 (.flt 6 (.flt 7 (.flt 8 (.flt 9 (.flt 10 (.flt 11 (.flt 12 (.flt 13 (.flt 14 (.flt 15 (.flt 16 (.flt 17 (.flt 18 (.flt 19 (.flt 20 (.flt 21 (.flt 22 (.flt 23 (.flt 24 (.gr 25 (.flt 26 (.gr 27 (.flt 28 (.gr 29 (.flt 30 (.gr 31 .done .nil)) .nil)) .nil)) .nil)))))))))))))))))))))))))) ((List.sublist_cons_self _ _).cons_cons _) (by kernel_rfl) (by kernel_rfl) ?_
    refine j_val rfl rfl (v_move rfl) ?_
    refine j_val rfl rfl (v_move rfl) ?_
    refine j_val rfl rfl (v_move rfl) ?_
    refine j_val rfl rfl (v_move rfl) ?_
    refine j_val rfl rfl (v_indexArr (j := 1) (off' := 1) Tryd.underlying47 sz3 rfl rfl (by first | omega | (dsimp only; omega)) rfl) ?_
    refine j_val rfl rfl (v_load Tryd.underlying3 rfl rfl (by first | exact at_ownL (.head _) rfl | exact at_ownL (.tail _ (.head _)) rfl | exact at_ownL (.tail _ (.tail _ (.head _))) rfl | (apply at_ownL; ((repeat (first | exact List.Mem.head _ | apply List.Mem.tail | apply List.mem_append_right))); rfl) | (refine at_ro (by first | exact .head _ | exact .tail _ (.head _) | exact .tail _ (.tail _ (.head _)) | simp) ?_ (by assumption); trivial))) ?_
    refine j_val rfl rfl (v_quoi (c := q1.tmod 15 / 10) rfl rfl (by decide) (Int.tdiv_eq_ediv_of_nonneg (by omega)) (by omega)) ?_
    refine j_val rfl rfl (v_addi rfl rfl rfl (by first | omega | (dsimp only; omega))) ?_
    refine j_val (v := Value.int .u8 ((u8of (48 + q1.tmod 15 / 10)).toNat : Nat)) rfl rfl (by rw [← u8of_wrap (48 + q1.tmod 15 / 10)]; exact v_conv Tryd.underlying3 Tryd.underlying5 rfl) ?_
    refine j_val rfl rfl (v_indexArr (j := 1) (off' := 1) Tryd.underlying47 sz3 rfl rfl (by first | omega | (dsimp only; omega)) rfl) ?_
    refine j_val rfl rfl (v_load Tryd.underlying3 rfl rfl (by first | exact at_ownL (.head _) rfl | exact at_ownL (.tail _ (.head _)) rfl | exact at_ownL (.tail _ (.tail _ (.head _))) rfl | (apply at_ownL; ((repeat (first | exact List.Mem.head _ | apply List.Mem.tail | apply List.mem_append_right))); rfl) | (refine at_ro (by first | exact .head _ | exact .tail _ (.head _) | exact .tail _ (.tail _ (.head _)) | simp) ?_ (by assumption); trivial))) ?_
    refine j_val rfl rfl (v_rem rfl rfl (by decide)) ?_
    refine j_val rfl rfl (v_addi rfl rfl rfl (by first | omega | (dsimp only; omega))) ?_
    refine j_val (v := Value.int .u8 ((u8of (48 + (q1.tmod 15).tmod 10)).toNat : Nat)) rfl rfl (by rw [← u8of_wrap (48 + (q1.tmod 15).tmod 10)]; exact v_conv Tryd.underlying3 Tryd.underlying5 rfl) ?_
    refine j_val rfl rfl (v_indexArr (j := 2) (off' := 2) Tryd.underlying47 sz3 rfl rfl (by first | omega | (dsimp only; omega)) rfl) ?_
    refine j_val rfl rfl (v_load Tryd.underlying3 rfl rfl (by first | exact at_ownL (.head _) rfl | exact at_ownL (.tail _ (.head _)) rfl | exact at_ownL (.tail _ (.tail _ (.head _))) rfl | (apply at_ownL; ((repeat (first | exact List.Mem.head _ | apply List.Mem.tail | apply List.mem_append_right))); rfl) | (refine at_ro (by first | exact .head _ | exact .tail _ (.head _) | exact .tail _ (.tail _ (.head _)) | simp) ?_ (by assumption); trivial))) ?_
    refine j_val rfl rfl (v_quoi (c := q2.tmod 34 / 10) rfl rfl (by decide) (Int.tdiv_eq_ediv_of_nonneg (by omega)) (by omega)) ?_
    refine j_val rfl rfl (v_addi rfl rfl rfl (by first | omega | (dsimp only; omega))) ?_
    refine j_val (v := Value.int .u8 ((u8of (48 + q2.tmod 34 / 10)).toNat : Nat)) rfl rfl (by rw [← u8of_wrap (48 + q2.tmod 34 / 10)]; exact v_conv Tryd.underlying3 Tryd.underlying5 rfl) ?_
    refine j_val rfl rfl (v_indexArr (j := 2) (off' := 2) Tryd.underlying47 sz3 rfl rfl (by first | omega | (dsimp only; omega)) rfl) ?_
    refine j_val rfl rfl (v_load Tryd.underlying3 rfl rfl (by first | exact at_ownL (.head _) rfl | exact at_ownL (.tail _ (.head _)) rfl | exact at_ownL (.tail _ (.tail _ (.head _))) rfl | (apply at_ownL; ((repeat (first | exact List.Mem.head _ | apply List.Mem.tail | apply List.mem_append_right))); rfl) | (refine at_ro (by first | exact .head _ | exact .tail _ (.head _) | exact .tail _ (.tail _ (.head _)) | simp) ?_ (by assumption); trivial))) ?_
    refine j_val rfl rfl (v_rem rfl rfl (by decide)) ?_
    refine j_val rfl rfl (v_addi rfl rfl rfl (by first | omega | (dsimp only; omega))) ?_
    refine j_val (v := Value.int .u8 ((u8of (48 + (q2.tmod 34).tmod 10)).toNat : Nat)) rfl rfl (by rw [← u8of_wrap (48 + (q2.tmod 34).tmod 10)]; exact v_conv Tryd.underlying3 Tryd.underlying5 rfl) ?_
    refine j_val rfl rfl (v_indexAddr (j := 5) (off' := 5) Tryd.underlying35 sz5 rfl rfl (by omega) (by omega)) ?_
    refine j_gr ?_ j_nil
    refine x_storeT (cs := byC (bs)) (off := 5) [(p9, _)] rfl rfl rfl rfl sz5 rfl (by rw [byC_len]; first | omega | (simp only [List.length_set]; omega)) (show 5 + 1 ≤ 10 by omega) ?_
    rw [byC_set (by first | omega | (simp only [List.length_set]; omega))]
    refine x_end ?_
    refine j_end ((List.sublist_cons_self _ _).cons_cons _) ?_
    refine j_val rfl rfl (v_indexAddr (j := 6) (off' := 6) Tryd.underlying35 sz5 rfl rfl (by omega) (by omega)) ?_
    refine j_gr ?_ j_nil
    refine x_storeT (cs := byC (bs.set 5 (u8of (48 + q1.tmod 15 / 10)))) (off := 6) [(p9, _)] rfl rfl rfl rfl sz5 rfl (by rw [byC_len]; first | omega | (simp only [List.length_set]; omega)) (show 6 + 1 ≤ 10 by omega) ?_
    rw [byC_set (by first | omega | (simp only [List.length_set]; omega))]
    refine x_end ?_
    refine j_end ((List.sublist_cons_self _ _).cons_cons _) ?_
    refine j_val rfl rfl (v_indexAddr (j := 8) (off' := 8) Tryd.underlying35 sz5 rfl rfl (by omega) (by omega)) ?_
    refine j_gr ?_ j_nil
    refine x_storeT (cs := byC ((bs.set 5 (u8of (48 + q1.tmod 15 / 10))).set 6 (u8of (48 + (q1.tmod 15).tmod 10)))) (off := 8) [(p9, _)] rfl rfl rfl rfl sz5 rfl (by rw [byC_len]; first | omega | (simp only [List.length_set]; omega)) (show 8 + 1 ≤ 10 by omega) ?_
    rw [byC_set (by first | omega | (simp only [List.length_set]; omega))]
    refine x_end ?_
    refine j_end ((List.sublist_cons_self _ _).cons_cons _) ?_
    refine j_val rfl rfl (v_indexAddr (j := 9) (off' := 9) Tryd.underlying35 sz5 rfl rfl (by omega) (by omega)) ?_
    refine j_gr ?_ j_nil
    refine x_storeT (cs := byC (((bs.set 5 (u8of (48 + q1.tmod 15 / 10))).set 6 (u8of (48 + (q1.tmod 15).tmod 10))).set 8 (u8of (48 + q2.tmod 34 / 10)))) (off := 9) [(p9, _)] rfl rfl rfl rfl sz5 rfl (by rw [byC_len]; first | omega | (simp only [List.length_set]; omega)) (show 9 + 1 ≤ 10 by omega) ?_
    rw [byC_set (by first | omega | (simp only [List.length_set]; omega))]
    obtain ⟨bs2, hb2⟩ : ∃ z, z = (((bs.set 5 (u8of (48 + q1.tmod 15 / 10))).set 6 (u8of (48 + (q1.tmod 15).tmod 10))).set 8 (u8of (48 + q2.tmod 34 / 10))).set 9 (u8of (48 + (q2.tmod 34).tmod 10)) := ⟨_, rfl⟩
    rw [← hb2]
    replace hbl : bs2.length = 10 := by rw [hb2]; simp only [List.length_set]; exact hbl
    refine x_end ?_
    refine j_end ((List.sublist_cons_self _ _).cons_cons _) ?_
    refine j_done ?_
    refine x_end ?_
    refine t_norm ?_
    refine w_seq ?_
    refine rg_text ?_
    refine x_val rfl rfl rfl (v_move rfl) ?_
    refine x_val (v := Value.string ⟨bs2.toArray⟩) rfl rfl rfl (v_toStr bs2 Tryd.underlying35 Tryd.underlying5 Tryd.underlying9 rfl (by simp [hbl]) (fun j hj => at_ownL (vs := byC bs2) (.tail _ (.head _)) (by rw [Nat.zero_add]; exact byC_at hj))) ?_
    refine x_callv rfl rfl rfl Tryd.func21 (by kernel_rfl) rfl (fun w1 hw1 => c21 _ w1 (by unfold okS; show (List.toArray _).size ≤ _; rw [List.size_toArray, hbl]; decide) (hL.later (hw1.base (by simp)))) ?_
    refine x_val rfl rfl rfl (v_move rfl) ?_
    refine x_val rfl rfl rfl (v_extract rfl rfl) ?_
    refine x_val rfl rfl rfl (v_extract rfl rfl) ?_
    refine x_val rfl rfl rfl (v_assign rfl) ?_
    refine x_val rfl rfl rfl (v_assign rfl) ?_
    refine x_end ?_
    refine t_norm ?_
    refine w_seq ?_
    refine rg_text ?_
    refine x_val rfl rfl rfl (v_move rfl) ?_
    refine x_val (v := Value.string ⟨bs2.toArray⟩) rfl rfl rfl (v_toStr bs2 Tryd.underlying35 Tryd.underlying5 Tryd.underlying9 rfl (by simp [hbl]) (fun j hj => at_ownL (vs := byC bs2) (.tail _ (.head _)) (by rw [Nat.zero_add]; exact byC_at hj))) ?_
    refine x_callv rfl rfl rfl Tryd.func27 (by kernel_rfl) rfl (fun w1 hw1 => c27 _ w1 (by unfold okS; show (List.toArray _).size ≤ _; rw [List.size_toArray, hbl]; decide)) ?_
    refine x_val rfl rfl rfl (v_move rfl) ?_
    refine x_val rfl rfl rfl (v_extract rfl rfl) ?_
    refine x_val rfl rfl rfl (v_extract rfl rfl) ?_
    refine x_val rfl rfl rfl (v_assign rfl) ?_
    refine x_val rfl rfl rfl (v_assign rfl) ?_
    refine x_end ?_
    refine t_norm ?_
    refine w_seq ?_
    refine w_seq ?_
    refine rg_text ?_
    refine x_val rfl rfl rfl (v_indexArr (j := 0) (off' := 0) Tryd.underlying46 sz5 rfl rfl (by first | omega | (dsimp only; omega)) rfl) ?_
    refine x_val rfl rfl rfl (v_load Tryd.underlying5 rfl rfl (by first | exact at_ownL (.head _) rfl | exact at_ownL (.tail _ (.head _)) rfl | exact at_ownL (.tail _ (.tail _ (.head _))) rfl | (apply at_ownL; ((repeat (first | exact List.Mem.head _ | apply List.Mem.tail | apply List.mem_append_right))); rfl) | (refine at_ro (by first | exact .head _ | exact .tail _ (.head _) | exact .tail _ (.tail _ (.head _)) | simp) ?_ (by assumption); trivial))) ?_
    refine x_val rfl rfl rfl (v_rem rfl rfl (by decide)) ?_
    refine x_bool rfl rfl rfl (v_eql rfl rfl) ?_
    intro b98 hb98
    refine x_end ?_
    refine t_norm ?_
    refine w_cond rfl (fun hc98 => ?_) (fun hc98 => ?_)
    · simp only [hb98, decide_eq_true_eq, decide_eq_false_iff_not, Bool.and_eq_true, Bool.or_eq_true, Bool.and_eq_false_iff, Bool.or_eq_false_iff, Bool.not_eq_true', Bool.not_eq_false', ne_eq, Decidable.not_not] at hc98
      have hx1r := tmod_r (m := 10) hx1.1 (by decide)
      have hx0q : 0 ≤ x0.tdiv 3 := Int.tdiv_nonneg hx0.1 (by decide)
      have hxq : IntKind.u8.wrap (x0.tdiv 3) = x0 / 3 := by rw [Int.tdiv_eq_ediv_of_nonneg hx0.1, IntKind.wrap_u8]; omega
      have hx3 := tmod_r (a := x0 / 3) (m := 10) (by omega) (by decide)
      refine rg_draw 10 [(true, 0), (true, 1), (true, 2), (true, 3), (true, 4), (true, 5), (true, 6), (true, 7), (true, 8), (true, 9)] (by kernel_rfl) (by kernel_rfl) ?_
      refine x_val rfl rfl rfl (v_move rfl) ?_
      refine x_val rfl rfl rfl (v_indexArr (j := 1) (off' := 1) Tryd.underlying46 sz5 rfl rfl (by first | omega | (dsimp only; omega)) rfl) ?_
      refine x_val rfl rfl rfl (v_load Tryd.underlying5 rfl rfl (by first | exact at_ownL (.head _) rfl | exact at_ownL (.tail _ (.head _)) rfl | exact at_ownL (.tail _ (.tail _ (.head _))) rfl | (apply at_ownL; ((repeat (first | exact List.Mem.head _ | apply List.Mem.tail | apply List.mem_append_right))); rfl) | (refine at_ro (by first | exact .head _ | exact .tail _ (.head _) | exact .tail _ (.tail _ (.head _)) | simp) ?_ (by assumption); trivial))) ?_
      refine x_val rfl rfl rfl (v_rem rfl rfl (by decide)) ?_
      refine x_val rfl rfl rfl (v_indexArr (j := 0) (off' := 0) Tryd.underlying46 sz5 rfl rfl (by first | omega | (dsimp only; omega)) rfl) ?_
      refine x_val rfl rfl rfl (v_load Tryd.underlying5 rfl rfl (by first | exact at_ownL (.head _) rfl | exact at_ownL (.tail _ (.head _)) rfl | exact at_ownL (.tail _ (.tail _ (.head _))) rfl | (apply at_ownL; ((repeat (first | exact List.Mem.head _ | apply List.Mem.tail | apply List.mem_append_right))); rfl) | (refine at_ro (by first | exact .head _ | exact .tail _ (.head _) | exact .tail _ (.tail _ (.head _)) | simp) ?_ (by assumption); trivial))) ?_
      refine x_val (v := Value.int .u8 (x0 / 3)) rfl rfl rfl (by rw [← hxq]; exact v_quo rfl rfl (by decide)) ?_
      refine x_val rfl rfl rfl (v_rem rfl rfl (by decide)) ?_
      refine x_val rfl rfl rfl (v_index (j := ((x0 / 3).tmod 10).toNat) Tryd.underlying9 rfl (congrArg (fun z : Int => some (Value.int .u8 z)) (show (x0 / 3).tmod 10 = ((((x0 / 3).tmod 10).toNat : Nat) : Int) by omega)) (show ((x0 / 3).tmod 10).toNat < 10 by omega)) ?_
      refine x_val rfl rfl rfl (v_indexAddr (j := (x1.tmod 10).toNat) (off' := (x1.tmod 10).toNat) Tryd.underlying35 sz5 rfl (congrArg (fun z : Int => some (Value.int .u8 z)) (show x1.tmod 10 = (((x1.tmod 10).toNat : Nat) : Int) by omega)) (by omega) (by omega)) ?_
      refine x_storeT (cs := byC (bs2)) (off := (x1.tmod 10).toNat) [(p9, _)] rfl rfl rfl rfl sz5 rfl (by rw [byC_len]; first | omega | (simp only [List.length_set]; omega)) (show (x1.tmod 10).toNat + 1 ≤ 10 by omega) ?_
      rw [byC_set (by first | omega | (simp only [List.length_set]; omega))]
      generalize hb3 : bs2.set (x1.tmod 10).toNat _ = bs3
      replace hbl : bs3.length = 10 := by rw [← hb3, List.length_set]; exact hbl
      refine x_end ?_
      refine t_norm ?_
      refine w_seq ?_
      refine rg_text ?_
      refine x_val rfl rfl rfl (v_move rfl) ?_
      refine x_val (v := Value.string ⟨bs3.toArray⟩) rfl rfl rfl (v_toStr bs3 Tryd.underlying35 Tryd.underlying5 Tryd.underlying9 rfl (by simp [hbl]) (fun j hj => at_ownL (vs := byC bs3) (.tail _ (.head _)) (by rw [Nat.zero_add]; exact byC_at hj))) ?_
      refine x_callv rfl rfl rfl Tryd.func21 (by kernel_rfl) rfl (fun w1 hw1 => c21 _ w1 (by unfold okS; show (List.toArray _).size ≤ _; rw [List.size_toArray, hbl]; decide) (hL.later (hw1.base (by simp)))) ?_
      refine x_val rfl rfl rfl (v_move rfl) ?_
      refine x_val rfl rfl rfl (v_extract rfl rfl) ?_
      refine x_val rfl rfl rfl (v_extract rfl rfl) ?_
      refine x_val rfl rfl rfl (v_assign rfl) ?_
      refine x_val rfl rfl rfl (v_assign rfl) ?_
      refine x_end ?_
      refine t_norm ?_
      refine w_seq ?_
      refine rg_text ?_
      refine x_val rfl rfl rfl (v_move rfl) ?_
      refine x_val (v := Value.string ⟨bs3.toArray⟩) rfl rfl rfl (v_toStr bs3 Tryd.underlying35 Tryd.underlying5 Tryd.underlying9 rfl (by simp [hbl]) (fun j hj => at_ownL (vs := byC bs3) (.tail _ (.head _)) (by rw [Nat.zero_add]; exact byC_at hj))) ?_
      refine x_callv rfl rfl rfl Tryd.func27 (by kernel_rfl) rfl (fun w1 hw1 => c27 _ w1 (by unfold okS; show (List.toArray _).size ≤ _; rw [List.size_toArray, hbl]; decide)) ?_
      refine x_val rfl rfl rfl (v_move rfl) ?_
      refine x_val rfl rfl rfl (v_extract rfl rfl) ?_
      refine x_val rfl rfl rfl (v_extract rfl rfl) ?_
      refine x_val rfl rfl rfl (v_assign rfl) ?_
      refine x_val rfl rfl rfl (v_assign rfl) ?_
      refine x_end ?_
      refine t_norm ?_
      refine w_seq ?_
      refine rg_text ?_
      refine x_val rfl rfl rfl (v_move rfl) ?_
      refine x_callv rfl rfl rfl Tryd.func21 (by kernel_rfl) rfl (fun w1 hw1 => c21 _ w1 (hs) (hL.later (hw1.base (by simp)))) ?_
      refine x_val rfl rfl rfl (v_move rfl) ?_
      refine x_val rfl rfl rfl (v_extract rfl rfl) ?_
      refine x_val rfl rfl rfl (v_extract rfl rfl) ?_
      refine x_val rfl rfl rfl (v_assign rfl) ?_
      refine x_val rfl rfl rfl (v_assign rfl) ?_
      refine x_end ?_
      refine t_norm ?_
      refine w_seq ?_
      refine rg_text ?_
      refine x_val rfl rfl rfl (v_move rfl) ?_
      refine x_callv rfl rfl rfl Tryd.func27 (by kernel_rfl) rfl (fun w1 hw1 => c27 _ w1 (hs)) ?_
      refine x_val rfl rfl rfl (v_move rfl) ?_
      refine x_val rfl rfl rfl (v_extract rfl rfl) ?_
      refine x_val rfl rfl rfl (v_extract rfl rfl) ?_
      refine x_val rfl rfl rfl (v_assign rfl) ?_
      refine x_val rfl rfl rfl (v_assign rfl) ?_
      refine x_end ?_
      refine t_norm ?_
      refine w_seq ?_
      refine rg_text ?_
      refine x_val rfl rfl rfl (v_move rfl) ?_
      refine x_val rfl rfl rfl (v_move rfl) ?_
      refine x_if [] rfl rfl rfl rfl rfl (fun hg => by obtain ⟨hg0, _⟩ := hg; (try simp only [List.cons_append, List.nil_append, gvl_nil, gvl_t, gvl_f]); exact v_move rfl) ?_
      refine x_if [] rfl rfl rfl rfl rfl (fun hg => by obtain ⟨hg0, _⟩ := hg; (try simp only [List.cons_append, List.nil_append, gvl_nil, gvl_t, gvl_f]); exact v_move rfl) ?_
      refine x_ifb [] rfl rfl rfl rfl rfl (fun hg => by obtain ⟨hg0, _⟩ := hg; (try simp only [List.cons_append, List.nil_append, gvl_nil, gvl_t, gvl_f]); exact v_eql rfl rfl) ?_
      intro b135 hb135
      obtain rfl : b135 = true := hb135.trans (by rw [readC_eq]; exact decide_eq_true rfl)
      refine x_bool rfl rfl rfl (v_and rfl rfl) ?_
      intro b136 hb136
      obtain rfl : b136 = true := hb136
      refine x_val rfl rfl rfl (v_move rfl) ?_
      refine x_if [] rfl rfl rfl rfl rfl (fun hg => by obtain ⟨hg0, _⟩ := hg; (try simp only [List.cons_append, List.nil_append, gvl_nil, gvl_t, gvl_f]); exact v_move rfl) ?_
      refine x_if [] rfl rfl rfl rfl rfl (fun hg => by obtain ⟨hg0, _⟩ := hg; (try simp only [List.cons_append, List.nil_append, gvl_nil, gvl_t, gvl_f]); exact v_move rfl) ?_
      refine x_ifb [] rfl rfl rfl rfl rfl (fun hg => by obtain ⟨hg0, _⟩ := hg; (try simp only [List.cons_append, List.nil_append, gvl_nil, gvl_t, gvl_f]); exact v_eql rfl rfl) ?_
      intro b140 hb140
      obtain rfl : b140 = true := hb140.trans (by rw [readC_eq]; exact decide_eq_true rfl)
      refine x_bool rfl rfl rfl (v_and rfl rfl) ?_
      intro b141 hb141
      obtain rfl : b141 = true := hb141
      refine x_val rfl rfl rfl (v_move rfl) ?_
      refine x_if [] rfl rfl rfl rfl rfl (fun hg => by obtain ⟨hg0, _⟩ := hg; (try simp only [List.cons_append, List.nil_append, gvl_nil, gvl_t, gvl_f]); exact v_move rfl) ?_
      refine x_if [] rfl rfl rfl rfl rfl (fun hg => by obtain ⟨hg0, _⟩ := hg; (try simp only [List.cons_append, List.nil_append, gvl_nil, gvl_t, gvl_f]); exact v_move rfl) ?_
      refine x_ifb [] rfl rfl rfl rfl rfl (fun hg => by obtain ⟨hg0, _⟩ := hg; (try simp only [List.cons_append, List.nil_append, gvl_nil, gvl_t, gvl_f]); exact v_eql rfl rfl) ?_
      intro b145 hb145
      obtain rfl : b145 = true := hb145.trans (by rw [readC_eq]; exact decide_eq_true rfl)
      refine x_bool rfl rfl rfl (v_and rfl rfl) ?_
      intro b146 hb146
      obtain rfl : b146 = true := hb146
      refine x_val rfl rfl rfl (v_move rfl) ?_
      refine x_if [] rfl rfl rfl rfl rfl (fun hg => by obtain ⟨hg0, _⟩ := hg; (try simp only [List.cons_append, List.nil_append, gvl_nil, gvl_t, gvl_f]); exact v_move rfl) ?_
      refine x_if [] rfl rfl rfl rfl rfl (fun hg => by obtain ⟨hg0, _⟩ := hg; (try simp only [List.cons_append, List.nil_append, gvl_nil, gvl_t, gvl_f]); exact v_move rfl) ?_
      refine x_ifb [] rfl rfl rfl rfl rfl (fun hg => by obtain ⟨hg0, _⟩ := hg; (try simp only [List.cons_append, List.nil_append, gvl_nil, gvl_t, gvl_f]); exact v_eql rfl rfl) ?_
      intro b150 hb150
      obtain rfl : b150 = true := hb150.trans (by rw [readC_eq]; exact decide_eq_true rfl)
      refine x_bool rfl rfl rfl (v_and rfl rfl) ?_
      intro b151 hb151
      obtain rfl : b151 = true := hb151
      refine x_val rfl rfl rfl (v_move rfl) ?_
      refine x_if [] rfl rfl rfl rfl rfl (fun hg => by obtain ⟨hg0, _⟩ := hg; (try simp only [List.cons_append, List.nil_append, gvl_nil, gvl_t, gvl_f]); exact v_move rfl) ?_
      refine x_if [] rfl rfl rfl rfl rfl (fun hg => by obtain ⟨hg0, _⟩ := hg; (try simp only [List.cons_append, List.nil_append, gvl_nil, gvl_t, gvl_f]); exact v_move rfl) ?_
      refine x_ifb [] rfl rfl rfl rfl rfl (fun hg => by obtain ⟨hg0, _⟩ := hg; (try simp only [List.cons_append, List.nil_append, gvl_nil, gvl_t, gvl_f]); exact v_eql rfl rfl) ?_
      intro b155 hb155
      obtain rfl : b155 = true := hb155.trans (by rw [readC_eq]; exact decide_eq_true rfl)
      refine x_bool rfl rfl rfl (v_and rfl rfl) ?_
      intro b156 hb156
      obtain rfl : b156 = true := hb156
      refine x_val rfl rfl rfl (v_move rfl) ?_
      refine x_if [] rfl rfl rfl rfl rfl (fun hg => by obtain ⟨hg0, _⟩ := hg; (try simp only [List.cons_append, List.nil_append, gvl_nil, gvl_t, gvl_f]); exact v_move rfl) ?_
      refine x_if [] rfl rfl rfl rfl rfl (fun hg => by obtain ⟨hg0, _⟩ := hg; (try simp only [List.cons_append, List.nil_append, gvl_nil, gvl_t, gvl_f]); exact v_move rfl) ?_
      refine x_ifb [] rfl rfl rfl rfl rfl (fun hg => by obtain ⟨hg0, _⟩ := hg; (try simp only [List.cons_append, List.nil_append, gvl_nil, gvl_t, gvl_f]); exact v_eql rfl rfl) ?_
      intro b160 hb160
      obtain rfl : b160 = true := hb160.trans (by rw [readC_eq]; exact decide_eq_true rfl)
      refine x_bool rfl rfl rfl (v_and rfl rfl) ?_
      intro b161 hb161
      obtain rfl : b161 = true := hb161
      refine x_val rfl rfl rfl (v_assign rfl) ?_
      refine x_end ?_
      refine t_norm ?_
      refine w_ret ?_
      refine ret1 rfl rfl (fun w' hm => ⟨?_, hm.base (by simp)⟩)
      rfl
    · simp only [hb98, decide_eq_true_eq, decide_eq_false_iff_not, Bool.and_eq_true, Bool.or_eq_true, Bool.and_eq_false_iff, Bool.or_eq_false_iff, Bool.not_eq_true', Bool.not_eq_false', ne_eq, Decidable.not_not] at hc98
      refine w_skip ?_
      refine t_norm ?_
      refine w_seq ?_
      refine rg_text ?_
      refine x_val rfl rfl rfl (v_move rfl) ?_
      refine x_val (v := Value.string ⟨bs2.toArray⟩) rfl rfl rfl (v_toStr bs2 Tryd.underlying35 Tryd.underlying5 Tryd.underlying9 rfl (by simp [hbl]) (fun j hj => at_ownL (vs := byC bs2) (.tail _ (.head _)) (by rw [Nat.zero_add]; exact byC_at hj))) ?_
      refine x_callv rfl rfl rfl Tryd.func21 (by kernel_rfl) rfl (fun w1 hw1 => c21 _ w1 (by unfold okS; show (List.toArray _).size ≤ _; rw [List.size_toArray, hbl]; decide) (hL.later (hw1.base (by simp)))) ?_
      refine x_val rfl rfl rfl (v_move rfl) ?_
      refine x_val rfl rfl rfl (v_extract rfl rfl) ?_
      refine x_val rfl rfl rfl (v_extract rfl rfl) ?_
      refine x_val rfl rfl rfl (v_assign rfl) ?_
      refine x_val rfl rfl rfl (v_assign rfl) ?_
      refine x_end ?_
      refine t_norm ?_
      refine w_seq ?_
      refine rg_text ?_
      refine x_val rfl rfl rfl (v_move rfl) ?_
      refine x_val (v := Value.string ⟨bs2.toArray⟩) rfl rfl rfl (v_toStr bs2 Tryd.underlying35 Tryd.underlying5 Tryd.underlying9 rfl (by simp [hbl]) (fun j hj => at_ownL (vs := byC bs2) (.tail _ (.head _)) (by rw [Nat.zero_add]; exact byC_at hj))) ?_
      refine x_callv rfl rfl rfl Tryd.func27 (by kernel_rfl) rfl (fun w1 hw1 => c27 _ w1 (by unfold okS; show (List.toArray _).size ≤ _; rw [List.size_toArray, hbl]; decide)) ?_
      refine x_val rfl rfl rfl (v_move rfl) ?_
      refine x_val rfl rfl rfl (v_extract rfl rfl) ?_
      refine x_val rfl rfl rfl (v_extract rfl rfl) ?_
      refine x_val rfl rfl rfl (v_assign rfl) ?_
      refine x_val rfl rfl rfl (v_assign rfl) ?_
      refine x_end ?_
      refine t_norm ?_
      refine w_seq ?_
      refine rg_text ?_
      refine x_val rfl rfl rfl (v_move rfl) ?_
      refine x_callv rfl rfl rfl Tryd.func21 (by kernel_rfl) rfl (fun w1 hw1 => c21 _ w1 (hs) (hL.later (hw1.base (by simp)))) ?_
      refine x_val rfl rfl rfl (v_move rfl) ?_
      refine x_val rfl rfl rfl (v_extract rfl rfl) ?_
      refine x_val rfl rfl rfl (v_extract rfl rfl) ?_
      refine x_val rfl rfl rfl (v_assign rfl) ?_
      refine x_val rfl rfl rfl (v_assign rfl) ?_
      refine x_end ?_
      refine t_norm ?_
      refine w_seq ?_
      refine rg_text ?_
      refine x_val rfl rfl rfl (v_move rfl) ?_
      refine x_callv rfl rfl rfl Tryd.func27 (by kernel_rfl) rfl (fun w1 hw1 => c27 _ w1 (hs)) ?_
      refine x_val rfl rfl rfl (v_move rfl) ?_
      refine x_val rfl rfl rfl (v_extract rfl rfl) ?_
      refine x_val rfl rfl rfl (v_extract rfl rfl) ?_
      refine x_val rfl rfl rfl (v_assign rfl) ?_
      refine x_val rfl rfl rfl (v_assign rfl) ?_
      refine x_end ?_
      refine t_norm ?_
      refine w_seq ?_
      refine rg_text ?_
      refine x_val rfl rfl rfl (v_move rfl) ?_
      refine x_val rfl rfl rfl (v_move rfl) ?_
      refine x_if [] rfl rfl rfl rfl rfl (fun hg => by obtain ⟨hg0, _⟩ := hg; (try simp only [List.cons_append, List.nil_append, gvl_nil, gvl_t, gvl_f]); exact v_move rfl) ?_
      refine x_if [] rfl rfl rfl rfl rfl (fun hg => by obtain ⟨hg0, _⟩ := hg; (try simp only [List.cons_append, List.nil_append, gvl_nil, gvl_t, gvl_f]); exact v_move rfl) ?_
      refine x_ifb [] rfl rfl rfl rfl rfl (fun hg => by obtain ⟨hg0, _⟩ := hg; (try simp only [List.cons_append, List.nil_append, gvl_nil, gvl_t, gvl_f]); exact v_eql rfl rfl) ?_
      intro b135 hb135
      obtain rfl : b135 = true := hb135.trans (by rw [readC_eq]; exact decide_eq_true rfl)
      refine x_bool rfl rfl rfl (v_and rfl rfl) ?_
      intro b136 hb136
      obtain rfl : b136 = true := hb136
      refine x_val rfl rfl rfl (v_move rfl) ?_
      refine x_if [] rfl rfl rfl rfl rfl (fun hg => by obtain ⟨hg0, _⟩ := hg; (try simp only [List.cons_append, List.nil_append, gvl_nil, gvl_t, gvl_f]); exact v_move rfl) ?_
      refine x_if [] rfl rfl rfl rfl rfl (fun hg => by obtain ⟨hg0, _⟩ := hg; (try simp only [List.cons_append, List.nil_append, gvl_nil, gvl_t, gvl_f]); exact v_move rfl) ?_
      refine x_ifb [] rfl rfl rfl rfl rfl (fun hg => by obtain ⟨hg0, _⟩ := hg; (try simp only [List.cons_append, List.nil_append, gvl_nil, gvl_t, gvl_f]); exact v_eql rfl rfl) ?_
      intro b140 hb140
      obtain rfl : b140 = true := hb140.trans (by rw [readC_eq]; exact decide_eq_true rfl)
      refine x_bool rfl rfl rfl (v_and rfl rfl) ?_
      intro b141 hb141
      obtain rfl : b141 = true := hb141
      refine x_val rfl rfl rfl (v_move rfl) ?_
      refine x_if [] rfl rfl rfl rfl rfl (fun hg => by obtain ⟨hg0, _⟩ := hg; (try simp only [List.cons_append, List.nil_append, gvl_nil, gvl_t, gvl_f]); exact v_move rfl) ?_
      refine x_if [] rfl rfl rfl rfl rfl (fun hg => by obtain ⟨hg0, _⟩ := hg; (try simp only [List.cons_append, List.nil_append, gvl_nil, gvl_t, gvl_f]); exact v_move rfl) ?_
      refine x_ifb [] rfl rfl rfl rfl rfl (fun hg => by obtain ⟨hg0, _⟩ := hg; (try simp only [List.cons_append, List.nil_append, gvl_nil, gvl_t, gvl_f]); exact v_eql rfl rfl) ?_
      intro b145 hb145
      obtain rfl : b145 = true := hb145.trans (by rw [readC_eq]; exact decide_eq_true rfl)
      refine x_bool rfl rfl rfl (v_and rfl rfl) ?_
      intro b146 hb146
      obtain rfl : b146 = true := hb146
      refine x_val rfl rfl rfl (v_move rfl) ?_
      refine x_if [] rfl rfl rfl rfl rfl (fun hg => by obtain ⟨hg0, _⟩ := hg; (try simp only [List.cons_append, List.nil_append, gvl_nil, gvl_t, gvl_f]); exact v_move rfl) ?_
      refine x_if [] rfl rfl rfl rfl rfl (fun hg => by obtain ⟨hg0, _⟩ := hg; (try simp only [List.cons_append, List.nil_append, gvl_nil, gvl_t, gvl_f]); exact v_move rfl) ?_
      refine x_ifb [] rfl rfl rfl rfl rfl (fun hg => by obtain ⟨hg0, _⟩ := hg; (try simp only [List.cons_append, List.nil_append, gvl_nil, gvl_t, gvl_f]); exact v_eql rfl rfl) ?_
      intro b150 hb150
      obtain rfl : b150 = true := hb150.trans (by rw [readC_eq]; exact decide_eq_true rfl)
      refine x_bool rfl rfl rfl (v_and rfl rfl) ?_
      intro b151 hb151
      obtain rfl : b151 = true := hb151
      refine x_val rfl rfl rfl (v_move rfl) ?_
      refine x_if [] rfl rfl rfl rfl rfl (fun hg => by obtain ⟨hg0, _⟩ := hg; (try simp only [List.cons_append, List.nil_append, gvl_nil, gvl_t, gvl_f]); exact v_move rfl) ?_
      refine x_if [] rfl rfl rfl rfl rfl (fun hg => by obtain ⟨hg0, _⟩ := hg; (try simp only [List.cons_append, List.nil_append, gvl_nil, gvl_t, gvl_f]); exact v_move rfl) ?_
      refine x_ifb [] rfl rfl rfl rfl rfl (fun hg => by obtain ⟨hg0, _⟩ := hg; (try simp only [List.cons_append, List.nil_append, gvl_nil, gvl_t, gvl_f]); exact v_eql rfl rfl) ?_
      intro b155 hb155
      obtain rfl : b155 = true := hb155.trans (by rw [readC_eq]; exact decide_eq_true rfl)
      refine x_bool rfl rfl rfl (v_and rfl rfl) ?_
      intro b156 hb156
      obtain rfl : b156 = true := hb156
      refine x_val rfl rfl rfl (v_move rfl) ?_
      refine x_if [] rfl rfl rfl rfl rfl (fun hg => by obtain ⟨hg0, _⟩ := hg; (try simp only [List.cons_append, List.nil_append, gvl_nil, gvl_t, gvl_f]); exact v_move rfl) ?_
      refine x_if [] rfl rfl rfl rfl rfl (fun hg => by obtain ⟨hg0, _⟩ := hg; (try simp only [List.cons_append, List.nil_append, gvl_nil, gvl_t, gvl_f]); exact v_move rfl) ?_
      refine x_ifb [] rfl rfl rfl rfl rfl (fun hg => by obtain ⟨hg0, _⟩ := hg; (try simp only [List.cons_append, List.nil_append, gvl_nil, gvl_t, gvl_f]); exact v_eql rfl rfl) ?_
      intro b160 hb160
      obtain rfl : b160 = true := hb160.trans (by rw [readC_eq]; exact decide_eq_true rfl)
      refine x_bool rfl rfl rfl (v_and rfl rfl) ?_
      intro b161 hb161
      obtain rfl : b161 = true := hb161
      refine x_val rfl rfl rfl (v_assign rfl) ?_
      refine x_end ?_
      refine t_norm ?_
      refine w_ret ?_
      refine ret1 rfl rfl (fun w' hm => ⟨?_, hm.base (by simp)⟩)
      rfl

end Go.Proofs.YtffdbbcmibamjaaDoor
