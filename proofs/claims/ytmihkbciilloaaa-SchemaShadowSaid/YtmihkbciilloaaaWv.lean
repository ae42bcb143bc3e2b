import Derived.Test.YtmihkbciilloaaaWu
import Derived.Test.YtmihkbciilloaaaPkTree
namespace Go.Proofs.Ytmihkbciilloaaa
open Go.RowKit Go.PK
set_option linter.unusedVariables false
set_option linter.unusedSimpArgs false
set_option maxRecDepth 100000 in
theorem c5 {v0 v : Value} {xs ls : List I4} {D0 D : Nat → Prop} {a b c : Int} (w : World) (hxs : sliceRd tyI4 D0 w v0 xs) (hls : sliceRd tyI4 D w v ls) (hq : in64 a ∧ in64 b ∧ in64 c) :
    Calls Try.prog 5 #[v0, v, .agg #[.int .i64 a, .int .i64 b, .int .i64 c]] w fun e w' => e = .returned (.bool (true)) ∧ Later w w' := by
  refine enter (vs := [v0, v, .agg #[.int .i64 a, .int .i64 b, .int .i64 c]]) Try.func5 rfl Try.ntmps5 rfl ?_
  refine w_seq ?_
  refine rg_text ?_
  refine x_box rfl rfl rfl rfl ?_
  intro p5
  refine x_val rfl rfl rfl (v_assign rfl) ?_
  refine x_end ?_
  refine t_norm ?_
  refine w_seq ?_
  refine rg_text ?_
  refine x_callb rfl rfl rfl Try.func11 (by kernel_rfl) rfl (fun w1 hw1 => c11 w1) ?_
  intro b9 hb9
  obtain rfl : b9 = true := hb9
  refine x_val rfl rfl rfl (v_assign rfl) ?_
  refine x_end ?_
  refine t_norm ?_
  refine w_seq_cut (σ := Nat × World × Value × List Fl) (fun y => sliceRd tyFl (newD w [(y.1, Obj.cells [Value.int .u8 97, .int .u8 109, y.2.2.1].toArray 32)]) y.2.1 y.2.2.1 y.2.2.2 ∧ y.2.2.2.length ≤ 20) (fun y => [(0, v0), (7, .bool true), (8, .pointer (some ⟨y.1, 0, none⟩))]) (fun y => [(y.1, Obj.cells [Value.int .u8 97, .int .u8 109, y.2.2.1].toArray 32)]) (fun y => [(y.2.1, notOwn [(y.1, Obj.cells [Value.int .u8 97, .int .u8 109, y.2.2.1].toArray 32)]), (w, fun _ => True)]) ?_ ?_
  · refine rg_tree 5 (.flt 0 (.flt 2 (.gr 1 (.gr 3 (.gr 4 .done .nil) (.gr 4 (.gr 3 .done .nil) .nil)) (.gr 4 (.gr 1 (.gr 3 .done .nil) .nil) .nil)))) (by kernel_rfl) (by kernel_rfl) ?_
    refine t_flt (Q := fun _ _ _ => False) ?_
    refine x_val rfl rfl rfl (v_move rfl) ?_
    refine x_end ?_
    refine t_flt (Q := fun _ _ _ => False) ?_
    refine x_val rfl rfl rfl (v_load_blk Try.underlying29 rfl rfl (by first | exact .head _ | exact .tail _ (.head _) | exact .tail _ (.tail _ (.head _)) | (repeat (first | exact List.Mem.head _ | apply List.Mem.tail | apply List.mem_append_right))) (by exact sz29)) ?_
    refine x_end ?_
    refine t_gr (Q := fun _ _ _ => False) ?_ ?_
    · refine x_call rfl rfl rfl Try.func15 (by kernel_rfl) rfl (fun w1 hw1 => c15n w1 (hls.keep (Kept.later (hw1.base (by simp))))) ?_
      intro v11 wa11 wb11 hm11 hl11 hr11
      obtain ⟨u11, rfl, hrd11⟩ := hr11
      refine x_end ?_
      refine t_gr (Q := fun _ _ _ => False) ?_ ?_
      · refine x_call rfl rfl rfl Try.func14 (by kernel_rfl) rfl (fun w1 hw1 => c14n 1000 w1 (keep_new hrd11 hw1 (by repeat (first | exact List.Mem.head _ | apply List.Mem.tail)) hm11) hq.1 hq.2.1 hq.2.2 ⟨by omega, by omega⟩ (by have := made_len ls; omega) (made_small ls)) ?_
        intro v13 wa13 wb13 hm13 hl13 hr13
        obtain ⟨u13, gs, rfl, hrd13, hl13, hs13, _⟩ := hr13
        have hgl : gs.length ≤ 20 := by have := made_len ls; omega
        obtain ⟨A13, cp13, hu13, _⟩ := id hrd13
        subst hu13
        refine x_end ?_
        refine t_gr (Q := fun _ _ _ => False) ?_ t_nil
        refine x_alloc rfl rfl rfl zr32 ?_
        intro p8
        refine x_end ?_
        refine t_done ?_
        refine x_store0 [] rfl rfl rfl rfl sz32 rfl rfl ?_
        refine x_end ?_
        refine s_fix [(p8, Obj.cells [Value.int .u8 97, .int .u8 109, (.slice A13 gs.length cp13)].toArray 32)] ((List.nil_sublist _).cons_cons _) (fun w0 hm0 => ?_)
        exact c_norm (p8, w0, (.slice A13 gs.length cp13), gs) ⟨hrd13.keep (Kept.made (hm0.less ((List.nil_sublist _).cons_cons _) (fun _ h => h)) (by repeat (first | exact List.Mem.head _ | apply List.Mem.tail)) hm13 (hm13.base (by simp)).size), hgl⟩ (by repeat (first | exact Sub.nil | refine Sub.cons rfl ?_)) (fun _ h => h.less (List.Sublist.refl _) (by intro s hs; rcases List.mem_cons.1 hs with rfl | hs; (· exact .head _); rw [List.mem_singleton.1 hs]; simp))
      refine t_gr (Q := fun _ _ _ => False) ?_ t_nil
      refine x_alloc rfl rfl rfl zr32 ?_
      intro p8
      refine x_end ?_
      refine t_gr (Q := fun _ _ _ => False) ?_ t_nil
      refine x_call rfl rfl rfl Try.func14 (by kernel_rfl) rfl (fun w1 hw1 => c14n 1000 w1 (keep_new hrd11 hw1 (by repeat (first | exact List.Mem.head _ | apply List.Mem.tail)) hm11) hq.1 hq.2.1 hq.2.2 ⟨by omega, by omega⟩ (by have := made_len ls; omega) (made_small ls)) ?_
      intro v13 wa13 wb13 hm13 hl13 hr13
      obtain ⟨u13, gs, rfl, hrd13, hl13, hs13, _⟩ := hr13
      have hgl : gs.length ≤ 20 := by have := made_len ls; omega
      obtain ⟨A13, cp13, hu13, _⟩ := id hrd13
      subst hu13
      refine x_end ?_
      refine t_done ?_
      refine x_store0 [] rfl rfl rfl rfl sz32 rfl rfl ?_
      refine x_end ?_
      refine s_fix [(p8, Obj.cells [Value.int .u8 97, .int .u8 109, (.slice A13 gs.length cp13)].toArray 32)] ((List.nil_sublist _).cons_cons _) (fun w0 hm0 => ?_)
      exact c_norm (p8, w0, (.slice A13 gs.length cp13), gs) ⟨hrd13.keep (Kept.made (hm0.less ((List.nil_sublist _).cons_cons _) (fun _ h => h)) (by repeat (first | exact List.Mem.head _ | apply List.Mem.tail)) hm13 (hm13.base (by simp)).size), hgl⟩ (by repeat (first | exact Sub.nil | refine Sub.cons rfl ?_)) (fun _ h => h.less (List.Sublist.refl _) (by intro s hs; rcases List.mem_cons.1 hs with rfl | hs; (· exact .head _); rw [List.mem_singleton.1 hs]; simp))
    refine t_gr (Q := fun _ _ _ => False) ?_ t_nil
    refine x_alloc rfl rfl rfl zr32 ?_
    intro p8
    refine x_end ?_
    refine t_gr (Q := fun _ _ _ => False) ?_ t_nil
    refine x_call rfl rfl rfl Try.func15 (by kernel_rfl) rfl (fun w1 hw1 => c15n w1 (hls.keep (Kept.later (hw1.base (by simp))))) ?_
    intro v11 wa11 wb11 hm11 hl11 hr11
    obtain ⟨u11, rfl, hrd11⟩ := hr11
    refine x_end ?_
    refine t_gr (Q := fun _ _ _ => False) ?_ t_nil
    refine x_call rfl rfl rfl Try.func14 (by kernel_rfl) rfl (fun w1 hw1 => c14n 1000 w1 (keep_new hrd11 hw1 (by repeat (first | exact List.Mem.head _ | apply List.Mem.tail)) hm11) hq.1 hq.2.1 hq.2.2 ⟨by omega, by omega⟩ (by have := made_len ls; omega) (made_small ls)) ?_
    intro v13 wa13 wb13 hm13 hl13 hr13
    obtain ⟨u13, gs, rfl, hrd13, hl13, hs13, _⟩ := hr13
    have hgl : gs.length ≤ 20 := by have := made_len ls; omega
    obtain ⟨A13, cp13, hu13, _⟩ := id hrd13
    subst hu13
    refine x_end ?_
    refine t_done ?_
    refine x_store0 [] rfl rfl rfl rfl sz32 rfl rfl ?_
    refine x_end ?_
    refine s_fix [(p8, Obj.cells [Value.int .u8 97, .int .u8 109, (.slice A13 gs.length cp13)].toArray 32)] ((List.nil_sublist _).cons_cons _) (fun w0 hm0 => ?_)
    exact c_norm (p8, w0, (.slice A13 gs.length cp13), gs) ⟨hrd13.keep (Kept.made (hm0.less ((List.nil_sublist _).cons_cons _) (fun _ h => h)) (by repeat (first | exact List.Mem.head _ | apply List.Mem.tail)) hm13 (hm13.base (by simp)).size), hgl⟩ (by repeat (first | exact Sub.nil | refine Sub.cons rfl ?_)) (fun _ h => h.less (List.Sublist.refl _) (by intro s hs; rcases List.mem_cons.1 hs with rfl | hs; (· exact .head _); rw [List.mem_singleton.1 hs]; simp))
  · rintro ⟨p8, ws, u, gs⟩ ⟨hg, hgl⟩
    refine w_state ([(0, v0), (7, .bool true), (8, .pointer (some ⟨p8, 0, none⟩))]) ([(p8, Obj.cells [Value.int .u8 97, .int .u8 109, u].toArray 32)]) ([(ws, notOwn [(p8, Obj.cells [Value.int .u8 97, .int .u8 109, u].toArray 32)]), (w, fun _ => True)]) ?_
    dsimp only at hg hgl
    refine w_seq ?_
    refine rg_draw 13 [(true, 0), (true, 1), (true, 2), (true, 4), (true, 6), (true, 8), (false, 3), (false, 5), (false, 7), (false, 9), (true, 10), (true, 11), (true, 12)] (by kernel_rfl) (by kernel_rfl) ?_
    refine x_val rfl rfl rfl (v_move rfl) ?_
    refine x_val rfl rfl rfl (v_move rfl) ?_
    refine x_if [] rfl rfl rfl rfl rfl (fun hg => by obtain ⟨hg0, _⟩ := hg; (try simp only [List.cons_append, List.nil_append, gvl_nil, gvl_t, gvl_f]); exact v_move rfl) ?_
    refine x_if [] rfl rfl rfl rfl rfl (fun hg => by obtain ⟨hg0, _⟩ := hg; (try simp only [List.cons_append, List.nil_append, gvl_nil, gvl_t, gvl_f]); exact v_load_blk Try.underlying32 rfl rfl (by first | exact .head _ | exact .tail _ (.head _) | exact .tail _ (.tail _ (.head _)) | (repeat (first | exact List.Mem.head _ | apply List.Mem.tail | apply List.mem_append_right))) (by exact sz32)) ?_
    refine x_if [] rfl rfl rfl rfl rfl (fun hg => by obtain ⟨hg0, _⟩ := hg; (try simp only [List.cons_append, List.nil_append, gvl_nil, gvl_t, gvl_f]); exact v_move rfl) ?_
    refine x_if [] rfl rfl rfl rfl rfl (fun hg => by obtain ⟨hg0, _⟩ := hg; (try simp only [List.cons_append, List.nil_append, gvl_nil, gvl_t, gvl_f]); exact v_load_blk Try.underlying32 rfl rfl (by first | exact .head _ | exact .tail _ (.head _) | exact .tail _ (.tail _ (.head _)) | (repeat (first | exact List.Mem.head _ | apply List.Mem.tail | apply List.mem_append_right))) (by exact sz32)) ?_
    refine x_call_g rfl rfl rfl rfl rfl Try.func20 (by kernel_rfl) rfl (fun w1 hw1 => c20 w1 (hxs.keep (Kept.later (hw1.base (by simp))))) ?_
    intro v17 wa17 wb17 hm17 hl17 hr17
    refine x_call_g rfl rfl rfl rfl rfl Try.func18 (by kernel_rfl) rfl (fun w1 hw1 => c18w (fs := gs) w1 (keep_new hr17 hw1 (by repeat (first | exact List.Mem.head _ | apply List.Mem.tail)) hm17) (hg.keep (Kept.new hw1 (by repeat (first | exact List.Mem.head _ | apply List.Mem.tail)))) (by have := rulesOf_len xs; omega)) ?_
    intro v19 wa19 wb19 hm19 hl19 hr19
    obtain ⟨hrd19, r19, rfl⟩ := hr19
    refine x_call_g rfl rfl rfl rfl rfl Try.func20 (by kernel_rfl) rfl (fun w1 hw1 => c20 w1 (hxs.keep (Kept.later (hw1.base (by simp))))) ?_
    intro v21 wa21 wb21 hm21 hl21 hr21
    refine x_call_g rfl rfl rfl rfl rfl Try.func16 (by kernel_rfl) rfl (fun w1 hw1 => c16w (fs := gs) w1 (keep_new hr21 hw1 (by repeat (first | exact List.Mem.head _ | apply List.Mem.tail)) hm21) (hg.keep (Kept.new hw1 (by repeat (first | exact List.Mem.head _ | apply List.Mem.tail)))) (by have := rulesOf_len xs; omega)) ?_
    intro v23 wa23 wb23 hm23 hl23 hr23
    obtain ⟨hrd23, r23, rfl⟩ := hr23
    refine x_call_ifb [] rfl rfl rfl rfl rfl Try.func17 (by kernel_rfl) (fun hg => by obtain ⟨hg0, _⟩ := hg; (try simp only [List.cons_append, List.nil_append, gvl_nil, gvl_t, gvl_f]); refine ⟨_, rfl, ?_⟩; exact fun w1 hw1 => c17 w1 (keep_new hrd19 hw1 (by repeat (first | exact List.Mem.head _ | apply List.Mem.tail)) hm19) (keep_new hrd23 hw1 (by repeat (first | exact List.Mem.head _ | apply List.Mem.tail)) hm23)) ?_
    intro b24 hb24
    obtain rfl : b24 = true := by rw [hb24]; simp
    refine x_bool rfl rfl rfl (v_and rfl rfl) ?_
    intro b25 hb25
    obtain rfl : b25 = true := by rw [hb25]; rfl
    refine x_val rfl rfl rfl (v_assign rfl) ?_
    refine x_end ?_
    refine t_norm ?_
    refine w_ret ?_
    refine ret1 rfl rfl (fun w' hm => ⟨?_, hm.base (by simp)⟩)
    rfl

end Go.Proofs.Ytmihkbciilloaaa
