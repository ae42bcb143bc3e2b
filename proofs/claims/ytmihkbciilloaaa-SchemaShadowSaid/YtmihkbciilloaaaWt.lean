import Derived.Test.YtmihkbciilloaaaWs
import Derived.Test.YtmihkbciilloaaaPkTree
namespace Go.Proofs.Ytmihkbciilloaaa
open Go.RowKit Go.PK
set_option linter.unusedVariables false
set_option linter.unusedSimpArgs false

theorem c15n {v : Value} {xs : List I4} {D : Nat → Prop} (w : World) (hxs : sliceRd tyI4 D w v xs) :
    Calls Try.prog 15 #[v] w fun e w' => ∃ v, e = .returned v ∧ Later w w' ∧ ∃ v', v = .agg #[.int .u8 97, .int .u8 109, v'] ∧ sliceRd tyFl (fun b => w.heap.size ≤ b) w' v' (made xs) :=
  Calls.mono (c15 w hxs) fun e w' ⟨v', h1, h2, h3⟩ => ⟨_, h1, h2, v', rfl, h3⟩
theorem c14n {v : Value} {fs : List Fl} {kd lv q0 q1 q2 : Int} {D : Nat → Prop} (M : Nat) (w : World) (hfs : sliceRd tyFl D w v fs) (hq0 : in64 q0) (hq1 : in64 q1) (hq2 : in64 q2) (hM : 1000 ≤ M ∧ M ≤ 100000) (hlen : fs.length ≤ M) (hsm : ∀ f ∈ fs, f.tag.size ≤ M ∧ f.subs.length ≤ M) :
    Calls Try.prog 14 #[.agg #[.int .u8 kd, .int .u8 lv, v], .agg #[.int .i64 q0, .int .i64 q1, .int .i64 q2]] w fun e w' => ∃ v, e = .returned v ∧ Later w w' ∧ ∃ v' gs, v = .agg #[.int .u8 kd, .int .u8 lv, v'] ∧ sliceRd tyFl (fun b => w.heap.size ≤ b) w' v' gs ∧ gs.length = fs.length ∧ (∀ g ∈ gs, g.tag.size ≤ M + 1 ∧ g.subs.length ≤ M + 1) ∧ (7 ≤ q0 % 9 → gs = fs) :=
  Calls.mono (c14 M w hfs hq0 hq1 hq2 hM hlen hsm) fun e w' ⟨R, Ss, gs, h1, h2, h3, h4, h5, h6, h7⟩ =>
    ⟨_, h1, h2, _, gs, rfl, h3.rd h4 (fun p hp => List.mem_append_right _ hp) (fun p hp => List.mem_append_left _ hp) (fun p hp => h4.newer (by simp) hp), h5, h6, h7⟩
theorem std_new {w w' : World} {b : Nat} (h1 : w.heap.size ≤ b) (h : w'.heap[b]? = some (.cells (std.flatMap Rl.cells).toArray 27)) : sliceRd tyRl (fun b => w.heap.size ≤ b) w' (.slice (some ⟨b, 0, none⟩) 24 24) std :=
  lit_rd (f := Rl.cells) (T := tyRl) (fun _ => rfl) h (by kernel_rfl) (by decide) (by decide) h1 (fun x hx => ⟨rfl, std_ok x hx⟩)
theorem c12n (w : World) : Calls Try.prog 12 #[] w fun e w' => ∃ v, e = .returned v ∧ Later w w' ∧ sliceRd tyRl (fun b => w.heap.size ≤ b) w' v std :=
  Calls.mono (c12 w) fun e w' ⟨v, h1, h2, b, h3, h4, h5⟩ => ⟨v, h1, h2, h3 ▸ std_new h4 h5⟩
theorem c13n (w : World) : Calls Try.prog 13 #[] w fun e w' => ∃ v, e = .returned v ∧ Later w w' ∧ sliceRd tyRl (fun b => w.heap.size ≤ b) w' v std :=
  Calls.mono (c13 w) fun e w' ⟨v, h1, h2, b, h3, h4, h5⟩ => ⟨v, h1, h2, h3 ▸ std_new h4 h5⟩
theorem b_same {p q : Bool} {xs : List Pb} (h1 : p = decide (xs = [])) (h2 : q = decide ((xs.length : Int) = 0)) : (p == q) = true := by
  subst h1 h2
  cases xs with
  | nil => rfl
  | cons a l => simp; omega
set_option maxRecDepth 100000 in
theorem c4 {v : Value} {xs : List I4} {D : Nat → Prop} {a b c a2 b2 c2 : Int} (w : World) (hxs : sliceRd tyI4 D w v xs) (hq : in64 a ∧ in64 b ∧ in64 c) (hq2 : in64 a2 ∧ in64 b2 ∧ in64 c2) :
    Calls Try.prog 4 #[v, .agg #[.int .i64 a, .int .i64 b, .int .i64 c], .agg #[.int .i64 a2, .int .i64 b2, .int .i64 c2]] w fun e w' => e = .returned (.bool (true)) ∧ Later w w' := by
  refine enter (vs := [v, .agg #[.int .i64 a, .int .i64 b, .int .i64 c], .agg #[.int .i64 a2, .int .i64 b2, .int .i64 c2]]) Try.func4 rfl Try.ntmps4 rfl ?_
  refine w_seq ?_
  refine rg_text ?_
  refine x_box rfl rfl rfl rfl ?_
  intro p4
  refine x_box rfl rfl rfl rfl ?_
  intro p5
  refine x_val rfl rfl rfl (v_assign rfl) ?_
  refine x_end ?_
  refine t_norm ?_
  refine w_seq ?_
  refine rg_text ?_
  refine x_callb rfl rfl rfl Try.func11 (by kernel_rfl) rfl (fun w1 hw1 => c11 w1) ?_
  intro b10 hb10
  obtain rfl : b10 = true := hb10
  refine x_val rfl rfl rfl (v_assign rfl) ?_
  refine x_end ?_
  refine t_norm ?_
  refine w_seq_cut (σ := Nat × World × Value × List Fl) (fun y => sliceRd tyFl (newD w [(y.1, Obj.cells [Value.int .u8 97, .int .u8 109, y.2.2.1].toArray 32)]) y.2.1 y.2.2.1 y.2.2.2 ∧ y.2.2.2.length ≤ 20) (fun y => [(7, .bool true), (8, .pointer (some ⟨y.1, 0, none⟩))]) (fun y => [(y.1, Obj.cells [Value.int .u8 97, .int .u8 109, y.2.2.1].toArray 32)]) (fun y => [(y.2.1, notOwn [(y.1, Obj.cells [Value.int .u8 97, .int .u8 109, y.2.2.1].toArray 32)]), (w, fun _ => True)]) ?_ ?_
  · refine rg_tree 7 (.flt 0 (.flt 2 (.flt 4 (.gr 1 (.gr 3 (.gr 5 (.gr 6 .done .nil) (.gr 6 (.gr 5 .done .nil) .nil)) (.gr 6 (.gr 3 (.gr 5 .done .nil) .nil) .nil)) (.gr 6 (.gr 1 (.gr 3 (.gr 5 .done .nil) .nil) .nil) .nil))))) (by kernel_rfl) (by kernel_rfl) ?_
    refine t_flt (Q := fun _ _ _ => False) ?_
    refine x_val rfl rfl rfl (v_move rfl) ?_
    refine x_end ?_
    refine t_flt (Q := fun _ _ _ => False) ?_
    refine x_val rfl rfl rfl (v_load_blk Try.underlying29 rfl rfl (by first | exact .head _ | exact .tail _ (.head _) | exact .tail _ (.tail _ (.head _)) | (repeat (first | exact List.Mem.head _ | apply List.Mem.tail | apply List.mem_append_right))) (by exact sz29)) ?_
    refine x_end ?_
    refine t_flt (Q := fun _ _ _ => False) ?_
    refine x_val rfl rfl rfl (v_load_blk Try.underlying29 rfl rfl (by first | exact .head _ | exact .tail _ (.head _) | exact .tail _ (.tail _ (.head _)) | (repeat (first | exact List.Mem.head _ | apply List.Mem.tail | apply List.mem_append_right))) (by exact sz29)) ?_
    refine x_end ?_
    refine t_gr (Q := fun _ _ _ => False) ?_ ?_
    · refine x_call rfl rfl rfl Try.func15 (by kernel_rfl) rfl (fun w1 hw1 => c15n w1 (hxs.keep (Kept.later (hw1.base (by simp))))) ?_
      intro v12 wa12 wb12 hm12 hl12 hr12
      obtain ⟨u12, rfl, hrd12⟩ := hr12
      refine x_end ?_
      refine t_gr (Q := fun _ _ _ => False) ?_ ?_
      · refine x_call rfl rfl rfl Try.func14 (by kernel_rfl) rfl (fun w1 hw1 => c14n 1000 w1 (keep_new hrd12 hw1 (by repeat (first | exact List.Mem.head _ | apply List.Mem.tail)) hm12) hq.1 hq.2.1 hq.2.2 ⟨by omega, by omega⟩ (by have := made_len xs; omega) (made_small xs)) ?_
        intro v14 wa14 wb14 hm14 hl14 hr14
        obtain ⟨u14, fs, rfl, hrd14, hl14, hs14, _⟩ := hr14
        refine x_end ?_
        refine t_gr (Q := fun _ _ _ => False) ?_ ?_
        · refine x_call rfl rfl rfl Try.func14 (by kernel_rfl) rfl (fun w1 hw1 => c14n 1001 w1 (keep_new hrd14 hw1 (by repeat (first | exact List.Mem.head _ | apply List.Mem.tail)) hm14) hq2.1 hq2.2.1 hq2.2.2 ⟨by omega, by omega⟩ (by have := made_len xs; omega) hs14) ?_
          intro v16 wa16 wb16 hm16 hl16 hr16
          obtain ⟨u16, gs, rfl, hrd16, hl16, hs16, _⟩ := hr16
          have hgl : gs.length ≤ 20 := by have := made_len xs; omega
          obtain ⟨A16, cp16, hu16, _⟩ := id hrd16
          subst hu16
          refine x_end ?_
          refine t_gr (Q := fun _ _ _ => False) ?_ t_nil
          refine x_alloc rfl rfl rfl zr32 ?_
          intro p8
          refine x_end ?_
          refine t_done ?_
          refine x_store0 [] rfl rfl rfl rfl sz32 rfl rfl ?_
          refine x_end ?_
          refine s_fix [(p8, Obj.cells [Value.int .u8 97, .int .u8 109, (.slice A16 gs.length cp16)].toArray 32)] ((List.nil_sublist _).cons_cons _) (fun w0 hm0 => ?_)
          exact c_norm (p8, w0, (.slice A16 gs.length cp16), gs) ⟨hrd16.keep (Kept.made (hm0.less ((List.nil_sublist _).cons_cons _) (fun _ h => h)) (by repeat (first | exact List.Mem.head _ | apply List.Mem.tail)) hm16 (hm16.base (by simp)).size), hgl⟩ (by repeat (first | exact Sub.nil | refine Sub.cons rfl ?_)) (fun _ h => h.less (List.Sublist.refl _) (by intro s hs; rcases List.mem_cons.1 hs with rfl | hs; (· exact .head _); rw [List.mem_singleton.1 hs]; simp))
        refine t_gr (Q := fun _ _ _ => False) ?_ t_nil
        refine x_alloc rfl rfl rfl zr32 ?_
        intro p8
        refine x_end ?_
        refine t_gr (Q := fun _ _ _ => False) ?_ t_nil
        refine x_call rfl rfl rfl Try.func14 (by kernel_rfl) rfl (fun w1 hw1 => c14n 1001 w1 (keep_new hrd14 hw1 (by repeat (first | exact List.Mem.head _ | apply List.Mem.tail)) hm14) hq2.1 hq2.2.1 hq2.2.2 ⟨by omega, by omega⟩ (by have := made_len xs; omega) hs14) ?_
        intro v16 wa16 wb16 hm16 hl16 hr16
        obtain ⟨u16, gs, rfl, hrd16, hl16, hs16, _⟩ := hr16
        have hgl : gs.length ≤ 20 := by have := made_len xs; omega
        obtain ⟨A16, cp16, hu16, _⟩ := id hrd16
        subst hu16
        refine x_end ?_
        refine t_done ?_
        refine x_store0 [] rfl rfl rfl rfl sz32 rfl rfl ?_
        refine x_end ?_
        refine s_fix [(p8, Obj.cells [Value.int .u8 97, .int .u8 109, (.slice A16 gs.length cp16)].toArray 32)] ((List.nil_sublist _).cons_cons _) (fun w0 hm0 => ?_)
        exact c_norm (p8, w0, (.slice A16 gs.length cp16), gs) ⟨hrd16.keep (Kept.made (hm0.less ((List.nil_sublist _).cons_cons _) (fun _ h => h)) (by repeat (first | exact List.Mem.head _ | apply List.Mem.tail)) hm16 (hm16.base (by simp)).size), hgl⟩ (by repeat (first | exact Sub.nil | refine Sub.cons rfl ?_)) (fun _ h => h.less (List.Sublist.refl _) (by intro s hs; rcases List.mem_cons.1 hs with rfl | hs; (· exact .head _); rw [List.mem_singleton.1 hs]; simp))
      refine t_gr (Q := fun _ _ _ => False) ?_ t_nil
      refine x_alloc rfl rfl rfl zr32 ?_
      intro p8
      refine x_end ?_
      refine t_gr (Q := fun _ _ _ => False) ?_ t_nil
      refine x_call rfl rfl rfl Try.func14 (by kernel_rfl) rfl (fun w1 hw1 => c14n 1000 w1 (keep_new hrd12 hw1 (by repeat (first | exact List.Mem.head _ | apply List.Mem.tail)) hm12) hq.1 hq.2.1 hq.2.2 ⟨by omega, by omega⟩ (by have := made_len xs; omega) (made_small xs)) ?_
      intro v14 wa14 wb14 hm14 hl14 hr14
      obtain ⟨u14, fs, rfl, hrd14, hl14, hs14, _⟩ := hr14
      refine x_end ?_
      refine t_gr (Q := fun _ _ _ => False) ?_ t_nil
      refine x_call rfl rfl rfl Try.func14 (by kernel_rfl) rfl (fun w1 hw1 => c14n 1001 w1 (keep_new hrd14 hw1 (by repeat (first | exact List.Mem.head _ | apply List.Mem.tail)) hm14) hq2.1 hq2.2.1 hq2.2.2 ⟨by omega, by omega⟩ (by have := made_len xs; omega) hs14) ?_
      intro v16 wa16 wb16 hm16 hl16 hr16
      obtain ⟨u16, gs, rfl, hrd16, hl16, hs16, _⟩ := hr16
      have hgl : gs.length ≤ 20 := by have := made_len xs; omega
      obtain ⟨A16, cp16, hu16, _⟩ := id hrd16
      subst hu16
      refine x_end ?_
      refine t_done ?_
      refine x_store0 [] rfl rfl rfl rfl sz32 rfl rfl ?_
      refine x_end ?_
      refine s_fix [(p8, Obj.cells [Value.int .u8 97, .int .u8 109, (.slice A16 gs.length cp16)].toArray 32)] ((List.nil_sublist _).cons_cons _) (fun w0 hm0 => ?_)
      exact c_norm (p8, w0, (.slice A16 gs.length cp16), gs) ⟨hrd16.keep (Kept.made (hm0.less ((List.nil_sublist _).cons_cons _) (fun _ h => h)) (by repeat (first | exact List.Mem.head _ | apply List.Mem.tail)) hm16 (hm16.base (by simp)).size), hgl⟩ (by repeat (first | exact Sub.nil | refine Sub.cons rfl ?_)) (fun _ h => h.less (List.Sublist.refl _) (by intro s hs; rcases List.mem_cons.1 hs with rfl | hs; (· exact .head _); rw [List.mem_singleton.1 hs]; simp))
    refine t_gr (Q := fun _ _ _ => False) ?_ t_nil
    refine x_alloc rfl rfl rfl zr32 ?_
    intro p8
    refine x_end ?_
    refine t_gr (Q := fun _ _ _ => False) ?_ t_nil
    refine x_call rfl rfl rfl Try.func15 (by kernel_rfl) rfl (fun w1 hw1 => c15n w1 (hxs.keep (Kept.later (hw1.base (by simp))))) ?_
    intro v12 wa12 wb12 hm12 hl12 hr12
    obtain ⟨u12, rfl, hrd12⟩ := hr12
    refine x_end ?_
    refine t_gr (Q := fun _ _ _ => False) ?_ t_nil
    refine x_call rfl rfl rfl Try.func14 (by kernel_rfl) rfl (fun w1 hw1 => c14n 1000 w1 (keep_new hrd12 hw1 (by repeat (first | exact List.Mem.head _ | apply List.Mem.tail)) hm12) hq.1 hq.2.1 hq.2.2 ⟨by omega, by omega⟩ (by have := made_len xs; omega) (made_small xs)) ?_
    intro v14 wa14 wb14 hm14 hl14 hr14
    obtain ⟨u14, fs, rfl, hrd14, hl14, hs14, _⟩ := hr14
    refine x_end ?_
    refine t_gr (Q := fun _ _ _ => False) ?_ t_nil
    refine x_call rfl rfl rfl Try.func14 (by kernel_rfl) rfl (fun w1 hw1 => c14n 1001 w1 (keep_new hrd14 hw1 (by repeat (first | exact List.Mem.head _ | apply List.Mem.tail)) hm14) hq2.1 hq2.2.1 hq2.2.2 ⟨by omega, by omega⟩ (by have := made_len xs; omega) hs14) ?_
    intro v16 wa16 wb16 hm16 hl16 hr16
    obtain ⟨u16, gs, rfl, hrd16, hl16, hs16, _⟩ := hr16
    have hgl : gs.length ≤ 20 := by have := made_len xs; omega
    obtain ⟨A16, cp16, hu16, _⟩ := id hrd16
    subst hu16
    refine x_end ?_
    refine t_done ?_
    refine x_store0 [] rfl rfl rfl rfl sz32 rfl rfl ?_
    refine x_end ?_
    refine s_fix [(p8, Obj.cells [Value.int .u8 97, .int .u8 109, (.slice A16 gs.length cp16)].toArray 32)] ((List.nil_sublist _).cons_cons _) (fun w0 hm0 => ?_)
    exact c_norm (p8, w0, (.slice A16 gs.length cp16), gs) ⟨hrd16.keep (Kept.made (hm0.less ((List.nil_sublist _).cons_cons _) (fun _ h => h)) (by repeat (first | exact List.Mem.head _ | apply List.Mem.tail)) hm16 (hm16.base (by simp)).size), hgl⟩ (by repeat (first | exact Sub.nil | refine Sub.cons rfl ?_)) (fun _ h => h.less (List.Sublist.refl _) (by intro s hs; rcases List.mem_cons.1 hs with rfl | hs; (· exact .head _); rw [List.mem_singleton.1 hs]; simp))
  · rintro ⟨p8, ws, u, gs⟩ ⟨hg, hgl⟩
    refine w_state ([(7, .bool true), (8, .pointer (some ⟨p8, 0, none⟩))]) ([(p8, Obj.cells [Value.int .u8 97, .int .u8 109, u].toArray 32)]) ([(ws, notOwn [(p8, Obj.cells [Value.int .u8 97, .int .u8 109, u].toArray 32)]), (w, fun _ => True)]) ?_
    dsimp only at hg hgl
    refine w_seq ?_
    refine rg_draw 4 [(true, 1), (false, 0), (false, 2), (true, 3)] (by kernel_rfl) (by kernel_rfl) ?_
    refine x_val rfl rfl rfl (v_load_blk Try.underlying32 rfl rfl (by first | exact .head _ | exact .tail _ (.head _) | exact .tail _ (.tail _ (.head _)) | (repeat (first | exact List.Mem.head _ | apply List.Mem.tail | apply List.mem_append_right))) (by exact sz32)) ?_
    refine x_call rfl rfl rfl Try.func13 (by kernel_rfl) rfl (fun w1 hw1 => c13n w1) ?_
    intro v17 wa17 wb17 hm17 hl17 hr17
    refine x_call rfl rfl rfl Try.func16 (by kernel_rfl) rfl (fun w1 hw1 => c16w (fs := gs) w1 (keep_new hr17 hw1 (by repeat (first | exact List.Mem.head _ | apply List.Mem.tail)) hm17) (hg.keep (Kept.new hw1 (by repeat (first | exact List.Mem.head _ | apply List.Mem.tail)))) (by rw [show std.length = 24 from rfl]; omega)) ?_
    intro v19 wa19 wb19 hm19 hl19 hr19
    obtain ⟨hrd19, r19, rfl⟩ := hr19
    refine x_val rfl rfl rfl (v_assign rfl) ?_
    refine x_end ?_
    refine t_norm ?_
    refine w_seq ?_
    refine rg_draw 18 [(true, 0), (true, 1), (true, 3), (true, 5), (false, 2), (false, 4), (true, 6), (true, 7), (true, 8), (true, 10), (true, 12), (true, 13), (true, 14), (false, 9), (true, 11), (true, 15), (true, 16), (true, 17)] (by kernel_rfl) (by kernel_rfl) ?_
    refine x_val rfl rfl rfl (v_move rfl) ?_
    refine x_val rfl rfl rfl (v_move rfl) ?_
    refine x_if [] rfl rfl rfl rfl rfl (fun hg => by obtain ⟨hg0, _⟩ := hg; (try simp only [List.cons_append, List.nil_append, gvl_nil, gvl_t, gvl_f]); exact v_load_blk Try.underlying32 rfl rfl (by first | exact .head _ | exact .tail _ (.head _) | exact .tail _ (.tail _ (.head _)) | (repeat (first | exact List.Mem.head _ | apply List.Mem.tail | apply List.mem_append_right))) (by exact sz32)) ?_
    refine x_if [] rfl rfl rfl rfl rfl (fun hg => by obtain ⟨hg0, _⟩ := hg; (try simp only [List.cons_append, List.nil_append, gvl_nil, gvl_t, gvl_f]); exact v_move rfl) ?_
    refine x_call_g rfl rfl rfl rfl rfl Try.func12 (by kernel_rfl) rfl (fun w1 hw1 => c12n w1) ?_
    intro v22 wa22 wb22 hm22 hl22 hr22
    refine x_call_g rfl rfl rfl rfl rfl Try.func18 (by kernel_rfl) rfl (fun w1 hw1 => c18w (fs := gs) w1 (keep_new hr22 hw1 (by repeat (first | exact List.Mem.head _ | apply List.Mem.tail)) hm22) (hg.keep (Kept.new hw1 (by repeat (first | exact List.Mem.head _ | apply List.Mem.tail)))) (by rw [show std.length = 24 from rfl]; omega)) ?_
    intro v24 wa24 wb24 hm24 hl24 hr24
    obtain ⟨hrd24, r24, rfl⟩ := hr24
    refine x_call_ifb [] rfl rfl rfl rfl rfl Try.func17 (by kernel_rfl) (fun hg => by obtain ⟨hg0, _⟩ := hg; (try simp only [List.cons_append, List.nil_append, gvl_nil, gvl_t, gvl_f]); refine ⟨_, rfl, ?_⟩; exact fun w1 hw1 => c17 w1 (keep_new hrd24 hw1 (by repeat (first | exact List.Mem.head _ | apply List.Mem.tail)) hm24) (keep_new hrd19 hw1 (by repeat (first | exact List.Mem.head _ | apply List.Mem.tail)) hm19)) ?_
    intro b26 hb26
    obtain rfl : b26 = true := by rw [hb26]; simp
    refine x_bool rfl rfl rfl (v_and rfl rfl) ?_
    intro b27 hb27
    obtain rfl : b27 = true := by rw [hb27]; rfl
    refine x_val rfl rfl rfl (v_move rfl) ?_
    refine x_if [] rfl rfl rfl rfl rfl (fun hg => by obtain ⟨hg0, _⟩ := hg; (try simp only [List.cons_append, List.nil_append, gvl_nil, gvl_t, gvl_f]); exact v_load_blk Try.underlying32 rfl rfl (by first | exact .head _ | exact .tail _ (.head _) | exact .tail _ (.tail _ (.head _)) | (repeat (first | exact List.Mem.head _ | apply List.Mem.tail | apply List.mem_append_right))) (by exact sz32)) ?_
    refine x_if [] rfl rfl rfl rfl rfl (fun hg => by obtain ⟨hg0, _⟩ := hg; (try simp only [List.cons_append, List.nil_append, gvl_nil, gvl_t, gvl_f]); exact v_move rfl) ?_
    refine x_if [] rfl rfl rfl rfl rfl (fun hg => by obtain ⟨hg0, _⟩ := hg; (try simp only [List.cons_append, List.nil_append, gvl_nil, gvl_t, gvl_f]); exact v_len_slice Try.underlying35 rfl) ?_
    refine x_ifb [] rfl rfl rfl rfl rfl (fun hg => by obtain ⟨hg0, _⟩ := hg; (try simp only [List.cons_append, List.nil_append, gvl_nil, gvl_t, gvl_f]); exact v_eql rfl rfl) ?_
    intro b34 hb34
    refine x_call_g rfl rfl rfl rfl rfl Try.func12 (by kernel_rfl) rfl (fun w1 hw1 => c12n w1) ?_
    intro v29 wa29 wb29 hm29 hl29 hr29
    refine x_call_ifb [] rfl rfl rfl rfl rfl Try.func19 (by kernel_rfl) (fun hg => by obtain ⟨hg0, _⟩ := hg; (try simp only [List.cons_append, List.nil_append, gvl_nil, gvl_t, gvl_f]); refine ⟨_, rfl, ?_⟩; exact fun w1 hw1 => c19 (fs := gs) w1 (keep_new hr29 hw1 (by repeat (first | exact List.Mem.head _ | apply List.Mem.tail)) hm29) (hg.keep (Kept.new hw1 (by repeat (first | exact List.Mem.head _ | apply List.Mem.tail)))) (by rw [show std.length = 24 from rfl]; omega)) ?_
    intro b31 hb31
    refine x_ifb [] rfl rfl rfl rfl rfl (fun hg => by obtain ⟨hg0, _⟩ := hg; (try simp only [List.cons_append, List.nil_append, gvl_nil, gvl_t, gvl_f]); exact v_beql rfl rfl Try.underlying4) ?_
    intro b35 hb35
    obtain rfl : b35 = true := by rw [hb35]; exact b_same hb31 hb34
    refine x_bool rfl rfl rfl (v_and rfl rfl) ?_
    intro b36 hb36
    obtain rfl : b36 = true := by rw [hb36]; rfl
    refine x_val rfl rfl rfl (v_assign rfl) ?_
    refine x_end ?_
    refine t_norm ?_
    refine w_ret ?_
    refine ret1 rfl rfl (fun w' hm => ⟨?_, hm.base (by simp)⟩)
    rfl

end Go.Proofs.Ytmihkbciilloaaa
