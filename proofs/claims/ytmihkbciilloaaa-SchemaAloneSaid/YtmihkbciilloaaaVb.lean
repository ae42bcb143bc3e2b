import Derived.Test.YtmihkbciilloaaaWv
import Derived.Test.YtmihkbciilloaaaPkTree
import Derived.Test.YtmihkbciilloaaaPkAlone
namespace Go.Proofs.Ytmihkbciilloaaa
open Go.RowKit Go.PK
set_option linter.unusedVariables false
set_option linter.unusedSimpArgs false
set_option maxRecDepth 100000 in
theorem c7 {v : Value} {ls : List I4} {D : Nat → Prop} {a b c : Int} (w : World) (hls : sliceRd tyI4 D w v ls) (hq : in64 a ∧ in64 b ∧ in64 c) :
    Calls Try.prog 7 #[v, .agg #[.int .i64 a, .int .i64 b, .int .i64 c]] w fun e w' => e = .returned (.bool (true)) ∧ Later w w' := by
  refine enter (vs := [v, .agg #[.int .i64 a, .int .i64 b, .int .i64 c]]) Try.func7 rfl Try.ntmps7 rfl ?_
  refine w_seq ?_
  refine rg_text ?_
  refine x_box rfl rfl rfl rfl ?_
  intro p3
  refine x_val rfl rfl rfl (v_assign rfl) ?_
  refine x_end ?_
  refine t_norm ?_
  refine w_seq ?_
  refine rg_text ?_
  refine x_callb rfl rfl rfl Try.func11 (by kernel_rfl) rfl (fun w1 hw1 => c11 w1) ?_
  intro b16 hb16
  obtain rfl : b16 = true := hb16
  refine x_val rfl rfl rfl (v_assign rfl) ?_
  refine x_end ?_
  refine t_norm ?_
  refine w_seq_cut (σ := Nat × World × Value × List Fl) (fun y => sliceRd tyFl (newD w [(y.1, Obj.cells [Value.int .u8 97, .int .u8 109, y.2.2.1].toArray 32)]) y.2.1 y.2.2.1 y.2.2.2 ∧ y.2.2.2.length ≤ 20) (fun y => [(5, .bool true), (6, .pointer (some ⟨y.1, 0, none⟩))]) (fun y => [(y.1, Obj.cells [Value.int .u8 97, .int .u8 109, y.2.2.1].toArray 32)]) (fun y => [(y.2.1, notOwn [(y.1, Obj.cells [Value.int .u8 97, .int .u8 109, y.2.2.1].toArray 32)]), (w, fun _ => True)]) ?_ ?_
  · refine rg_tree 5 (.flt 0 (.flt 2 (.gr 1 (.gr 3 (.gr 4 .done .nil) (.gr 4 (.gr 3 .done .nil) .nil)) (.gr 4 (.gr 1 (.gr 3 .done .nil) .nil) .nil)))) (by kernel_rfl) (by kernel_rfl) ?_
    refine t_flt (Q := fun _ _ _ => False) ?_
    refine x_val rfl rfl rfl (v_move rfl) ?_
    refine x_end ?_
    refine t_flt (Q := fun _ _ _ => False) ?_
    refine x_val rfl rfl rfl (v_load_blk Try.underlying29 rfl rfl (by first | exact .head _ | exact .tail _ (.head _) | exact .tail _ (.tail _ (.head _)) | (repeat (first | exact List.Mem.head _ | apply List.Mem.tail | apply List.mem_append_right))) (by exact sz29)) ?_
    refine x_end ?_
    refine t_gr (Q := fun _ _ _ => False) ?_ ?_
    · refine x_call rfl rfl rfl Try.func15 (by kernel_rfl) rfl (fun w1 hw1 => c15n w1 (hls.keep (Kept.later (hw1.base (by simp))))) ?_
      intro v18 wa18 wb18 hm18 hl18 hr18
      obtain ⟨u18, rfl, hrd18⟩ := hr18
      refine x_end ?_
      refine t_gr (Q := fun _ _ _ => False) ?_ ?_
      · refine x_call rfl rfl rfl Try.func14 (by kernel_rfl) rfl (fun w1 hw1 => c14n 1000 w1 (keep_new hrd18 hw1 (by repeat (first | exact List.Mem.head _ | apply List.Mem.tail)) hm18) hq.1 hq.2.1 hq.2.2 ⟨by omega, by omega⟩ (by have := made_len ls; omega) (made_small ls)) ?_
        intro v20 wa20 wb20 hm20 hl20 hr20
        obtain ⟨u20, gs, rfl, hrd20, hl20, hs20, _⟩ := hr20
        have hgl : gs.length ≤ 20 := by have := made_len ls; omega
        obtain ⟨A20, cp20, hu20, _⟩ := id hrd20
        subst hu20
        refine x_end ?_
        refine t_gr (Q := fun _ _ _ => False) ?_ t_nil
        refine x_alloc rfl rfl rfl zr32 ?_
        intro p6
        refine x_end ?_
        refine t_done ?_
        refine x_store0 [] rfl rfl rfl rfl sz32 rfl rfl ?_
        refine x_end ?_
        refine s_fix [(p6, Obj.cells [Value.int .u8 97, .int .u8 109, (.slice A20 gs.length cp20)].toArray 32)] ((List.nil_sublist _).cons_cons _) (fun w0 hm0 => ?_)
        exact c_norm (p6, w0, (.slice A20 gs.length cp20), gs) ⟨hrd20.keep (Kept.made (hm0.less ((List.nil_sublist _).cons_cons _) (fun _ h => h)) (by repeat (first | exact List.Mem.head _ | apply List.Mem.tail)) hm20 (hm20.base (by simp)).size), hgl⟩ (by repeat (first | exact Sub.nil | refine Sub.cons rfl ?_)) (fun _ h => h.less (List.Sublist.refl _) (by intro s hs; rcases List.mem_cons.1 hs with rfl | hs; (· exact .head _); rw [List.mem_singleton.1 hs]; simp))
      refine t_gr (Q := fun _ _ _ => False) ?_ t_nil
      refine x_alloc rfl rfl rfl zr32 ?_
      intro p6
      refine x_end ?_
      refine t_gr (Q := fun _ _ _ => False) ?_ t_nil
      refine x_call rfl rfl rfl Try.func14 (by kernel_rfl) rfl (fun w1 hw1 => c14n 1000 w1 (keep_new hrd18 hw1 (by repeat (first | exact List.Mem.head _ | apply List.Mem.tail)) hm18) hq.1 hq.2.1 hq.2.2 ⟨by omega, by omega⟩ (by have := made_len ls; omega) (made_small ls)) ?_
      intro v20 wa20 wb20 hm20 hl20 hr20
      obtain ⟨u20, gs, rfl, hrd20, hl20, hs20, _⟩ := hr20
      have hgl : gs.length ≤ 20 := by have := made_len ls; omega
      obtain ⟨A20, cp20, hu20, _⟩ := id hrd20
      subst hu20
      refine x_end ?_
      refine t_done ?_
      refine x_store0 [] rfl rfl rfl rfl sz32 rfl rfl ?_
      refine x_end ?_
      refine s_fix [(p6, Obj.cells [Value.int .u8 97, .int .u8 109, (.slice A20 gs.length cp20)].toArray 32)] ((List.nil_sublist _).cons_cons _) (fun w0 hm0 => ?_)
      exact c_norm (p6, w0, (.slice A20 gs.length cp20), gs) ⟨hrd20.keep (Kept.made (hm0.less ((List.nil_sublist _).cons_cons _) (fun _ h => h)) (by repeat (first | exact List.Mem.head _ | apply List.Mem.tail)) hm20 (hm20.base (by simp)).size), hgl⟩ (by repeat (first | exact Sub.nil | refine Sub.cons rfl ?_)) (fun _ h => h.less (List.Sublist.refl _) (by intro s hs; rcases List.mem_cons.1 hs with rfl | hs; (· exact .head _); rw [List.mem_singleton.1 hs]; simp))
    refine t_gr (Q := fun _ _ _ => False) ?_ t_nil
    refine x_alloc rfl rfl rfl zr32 ?_
    intro p6
    refine x_end ?_
    refine t_gr (Q := fun _ _ _ => False) ?_ t_nil
    refine x_call rfl rfl rfl Try.func15 (by kernel_rfl) rfl (fun w1 hw1 => c15n w1 (hls.keep (Kept.later (hw1.base (by simp))))) ?_
    intro v18 wa18 wb18 hm18 hl18 hr18
    obtain ⟨u18, rfl, hrd18⟩ := hr18
    refine x_end ?_
    refine t_gr (Q := fun _ _ _ => False) ?_ t_nil
    refine x_call rfl rfl rfl Try.func14 (by kernel_rfl) rfl (fun w1 hw1 => c14n 1000 w1 (keep_new hrd18 hw1 (by repeat (first | exact List.Mem.head _ | apply List.Mem.tail)) hm18) hq.1 hq.2.1 hq.2.2 ⟨by omega, by omega⟩ (by have := made_len ls; omega) (made_small ls)) ?_
    intro v20 wa20 wb20 hm20 hl20 hr20
    obtain ⟨u20, gs, rfl, hrd20, hl20, hs20, _⟩ := hr20
    have hgl : gs.length ≤ 20 := by have := made_len ls; omega
    obtain ⟨A20, cp20, hu20, _⟩ := id hrd20
    subst hu20
    refine x_end ?_
    refine t_done ?_
    refine x_store0 [] rfl rfl rfl rfl sz32 rfl rfl ?_
    refine x_end ?_
    refine s_fix [(p6, Obj.cells [Value.int .u8 97, .int .u8 109, (.slice A20 gs.length cp20)].toArray 32)] ((List.nil_sublist _).cons_cons _) (fun w0 hm0 => ?_)
    exact c_norm (p6, w0, (.slice A20 gs.length cp20), gs) ⟨hrd20.keep (Kept.made (hm0.less ((List.nil_sublist _).cons_cons _) (fun _ h => h)) (by repeat (first | exact List.Mem.head _ | apply List.Mem.tail)) hm20 (hm20.base (by simp)).size), hgl⟩ (by repeat (first | exact Sub.nil | refine Sub.cons rfl ?_)) (fun _ h => h.less (List.Sublist.refl _) (by intro s hs; rcases List.mem_cons.1 hs with rfl | hs; (· exact .head _); rw [List.mem_singleton.1 hs]; simp))
  · rintro ⟨p6, ws, u, gs⟩ ⟨hg, hgl⟩
    refine w_state ([(5, .bool true), (6, .pointer (some ⟨p6, 0, none⟩))]) ([(p6, Obj.cells [Value.int .u8 97, .int .u8 109, u].toArray 32)]) ([(ws, notOwn [(p6, Obj.cells [Value.int .u8 97, .int .u8 109, u].toArray 32)]), (w, fun _ => True)]) ?_
    dsimp only at hg hgl
    obtain ⟨AU, cU, hu, _⟩ := id hg
    subst hu
    refine w_seq ?_
    refine rg_text ?_
    refine x_call rfl rfl rfl Try.func12 (by kernel_rfl) rfl (fun w1 hw1 => c12n w1) ?_
    intro v21 wa21 wb21 hm21 hl21 hr21
    refine x_val rfl rfl rfl (v_assign rfl) ?_
    refine x_end ?_
    refine t_norm ?_
    refine w_seq ?_
    refine w_fix [(p6, Obj.cells [Value.int .u8 97, .int .u8 109, .slice AU gs.length cU].toArray 32)] (List.Sublist.refl _) (fun w4 hm4 => ?_)
    have g21 := hr21.keep (Kept.made (w := w) hm4 (by repeat (first | exact List.Mem.head _ | apply List.Mem.tail)) hm21 (hm21.base (by simp)).size)
    have gf := hg.keep (Kept.frz (w := w) hm4 (List.Sublist.refl _) (by repeat (first | exact List.Mem.head _ | apply List.Mem.tail)))
    have hpl : (chk std gs).length ≤ 44 := by have h1 := chkM_len std gs std.length; have : std.length = 24 := rfl; unfold chk; omega
    have hfi := field_in std gs
    refine rg_text ?_
    refine x_makeMap rfl rfl rfl ?_
    intro p22
    refine x_val rfl rfl rfl (v_assign rfl) ?_
    refine x_end ?_
    refine t_norm ?_
    refine w_seq ?_
    refine w_seq ?_
    refine rg_text ?_
    refine x_val rfl rfl rfl (v_move rfl) ?_
    refine x_val rfl rfl rfl (v_load_blk Try.underlying32 rfl rfl (by first | exact .head _ | exact .tail _ (.head _) | exact .tail _ (.tail _ (.head _)) | (repeat (first | exact List.Mem.head _ | apply List.Mem.tail | apply List.mem_append_right))) (by exact sz32)) ?_
    refine x_call rfl rfl rfl Try.func18 (by kernel_rfl) rfl (fun w1 hw1 => c18w (rs := std) (fs := gs) w1 (g21.keep (Kept.new hw1 (by repeat (first | exact List.Mem.head _ | apply List.Mem.tail)))) (gf.keep (Kept.new hw1 (by repeat (first | exact List.Mem.head _ | apply List.Mem.tail)))) (by have : std.length = 24 := rfl; omega)) ?_
    intro v25 wa25 wb25 hm25 hl25 hr25
    obtain ⟨hrd25, r25, rfl⟩ := hr25
    generalize hps : chk std gs = ps at hrd25 hpl hfi ⊢
    refine x_val rfl rfl rfl (v_len_slice Try.underlying35 rfl) ?_
    refine x_val rfl rfl rfl (v_move rfl) ?_
    refine x_end ?_
    refine t_norm ?_
    refine w_block ?_
    refine w_loop (σ := Nat × Array MapEntry × Nat × (Value → Option Value)) (fun x => x.1 ≤ ps.length ∧ MapF Try.prog 3 x.2.1 x.2.2.2 ∧ MapOf x.2.2.2 (ps.take x.1)) (fun x => [(5, .bool true), (6, .pointer (some ⟨p6, 0, none⟩)), (7, v21), (8, .map (some p22)), (25, rowV r25 ps.length), (26, Value.int .i64 ps.length), (27, Value.int .i64 (x.1 : Nat))]) (fun x => [(p22, Obj.map x.2.1 x.2.2.1), (p6, Obj.cells [Value.int .u8 97, .int .u8 109, .slice AU gs.length cU].toArray 32)]) (fun x => [(wb25, notOwn [(p22, Obj.map #[] 0), (p6, Obj.cells [Value.int .u8 97, .int .u8 109, .slice AU gs.length cU].toArray 32)]), (w4, notOwn [(p6, Obj.cells [Value.int .u8 97, .int .u8 109, .slice AU gs.length cU].toArray 32)]), (w, fun _ => True)]) (fun x => ps.length - x.1) ((0, #[], 0, fun _ => none)) (⟨Nat.zero_le _, MapF.empty, MapOf.nil⟩) (l_start (by repeat (first | exact Sub.nil | refine Sub.cons rfl ?_)) (fun _ h => h.less (List.Sublist.refl _) (by intro s hs; simp only [List.mem_cons, List.not_mem_nil, or_false] at hs; rcases hs with rfl | rfl | rfl <;> simp))) ?_
    rintro ⟨k, es, clock, mf⟩ ⟨hk, hmf, hof⟩
    refine w_state ([(5, .bool true), (6, .pointer (some ⟨p6, 0, none⟩)), (7, v21), (8, .map (some p22)), (25, rowV r25 ps.length), (26, Value.int .i64 ps.length), (27, Value.int .i64 (k : Nat))]) ([(p22, Obj.map es clock), (p6, Obj.cells [Value.int .u8 97, .int .u8 109, .slice AU gs.length cU].toArray 32)]) ([(wb25, notOwn [(p22, Obj.map #[] 0), (p6, Obj.cells [Value.int .u8 97, .int .u8 109, .slice AU gs.length cU].toArray 32)]), (w4, notOwn [(p6, Obj.cells [Value.int .u8 97, .int .u8 109, .slice AU gs.length cU].toArray 32)]), (w, fun _ => True)]) ?_
    dsimp only at hk hmf hof
    refine w_seq ?_
    refine rg_text ?_
    refine x_bool rfl rfl rfl (v_lss rfl rfl) ?_
    intro b28 hb28
    refine x_end ?_
    refine t_norm ?_
    refine w_seq ?_
    refine w_cond rfl (fun hc28 => ?_) (fun hc28 => ?_)
    · simp only [hb28, decide_eq_true_eq, decide_eq_false_iff_not, Bool.and_eq_true, Bool.or_eq_true, Bool.and_eq_false_iff, Bool.or_eq_false_iff, Bool.not_eq_true', Bool.not_eq_false', ne_eq, Decidable.not_not] at hc28
      have hkl : k < ps.length := by omega
      obtain ⟨_, _, e0, _, _, q0⟩ := id hrd25
      injection e0 with e1 e2 e3
      obtain ⟨b0, o0, hA0, hD0, hb0, hc0⟩ := q0 (by omega)
      obtain ⟨cs0, hcs0, hrd0⟩ := hc0 k (by omega)
      subst hrd0
      have hf := hfi _ (List.getElem_mem hkl)
      have hnot : notOwn [(p22, Obj.map #[] 0), (p6, Obj.cells [Value.int .u8 97, .int .u8 109, .slice AU gs.length cU].toArray 32)] b0 := fun q hq e => by have := hm25.lt hq; omega
      refine w_skip ?_
      refine t_norm ?_
      refine w_seq ?_
      refine w_block ?_
      refine w_seq ?_
      refine rg_text ?_
      refine x_val rfl rfl rfl (v_indexAddr Try.underlying35 sz54 (congrArg (fun A => some (Value.slice A ps.length (rowC r25))) (e1.trans hA0)) rfl (by first | omega | (dsimp only; omega)) rfl) ?_
      refine x_val rfl rfl rfl (v_loadN (vs := [Value.int .i64 ps[k].field, .int .i64 ps[k].kind]) Try.underlying54 rfl sz54 rfl (fun i hi => at_ro (.head _) hnot (hcs0 i hi))) ?_
      refine x_alloc rfl rfl rfl zr54 ?_
      intro p10
      refine x_store0 [] rfl rfl rfl rfl sz54 rfl rfl ?_
      refine x_end ?_
      refine t_norm ?_
      refine w_seq ?_
      refine rg_text ?_
      refine x_val rfl rfl rfl (v_fieldAddr (off' := 0) Try.underlying54 rfl sz3 (by decide) rfl rfl) ?_
      refine x_val rfl rfl rfl (v_load Try.underlying3 rfl rfl (by first | exact at_ownL (.head _) rfl | exact at_ownL (.tail _ (.head _)) rfl | exact at_ownL (.tail _ (.tail _ (.head _))) rfl | (apply at_ownL; ((repeat (first | exact List.Mem.head _ | apply List.Mem.tail | apply List.mem_append_right))); rfl) | (refine at_ro (by first | exact .head _ | exact .tail _ (.head _) | exact .tail _ (.tail _ (.head _)) | simp) ?_ (by assumption); trivial))) ?_
      refine x_bool rfl rfl rfl (v_geq rfl rfl) ?_
      intro b33 hb33
      refine x_end ?_
      refine t_norm ?_
      refine w_cond rfl (fun hc33 => ?_) (fun hc33 => ?_)
      · simp only [hb33, decide_eq_true_eq, decide_eq_false_iff_not, Bool.and_eq_true, Bool.or_eq_true, Bool.and_eq_false_iff, Bool.or_eq_false_iff, Bool.not_eq_true', Bool.not_eq_false', ne_eq, Decidable.not_not] at hc33
        refine rg_text ?_
        refine x_val rfl rfl rfl (v_move rfl) ?_
        refine x_val rfl rfl rfl (v_fieldAddr (off' := 0) Try.underlying54 rfl sz3 (by decide) rfl rfl) ?_
        refine x_val rfl rfl rfl (v_load Try.underlying3 rfl rfl (by first | exact at_ownL (.head _) rfl | exact at_ownL (.tail _ (.head _)) rfl | exact at_ownL (.tail _ (.tail _ (.head _))) rfl | (apply at_ownL; ((repeat (first | exact List.Mem.head _ | apply List.Mem.tail | apply List.mem_append_right))); rfl) | (refine at_ro (by first | exact .head _ | exact .tail _ (.head _) | exact .tail _ (.tail _ (.head _)) | simp) ?_ (by assumption); trivial))) ?_
        refine x_val rfl rfl rfl (v_fieldAddr (off' := 1) Try.underlying54 rfl sz52 (by decide) rfl rfl) ?_
        refine x_val rfl rfl rfl (v_load Try.underlying52 rfl rfl (by first | exact at_ownL (.head _) rfl | exact at_ownL (.tail _ (.head _)) rfl | exact at_ownL (.tail _ (.tail _ (.head _))) rfl | (apply at_ownL; ((repeat (first | exact List.Mem.head _ | apply List.Mem.tail | apply List.mem_append_right))); rfl) | (refine at_ro (by first | exact .head _ | exact .tail _ (.head _) | exact .tail _ (.tail _ (.head _)) | simp) ?_ (by assumption); trivial))) ?_
        refine x_mapUpdate [(p10, _)] rfl rfl rfl rfl Try.underlying51 (Maps.int_keyed Try.underlying3) (Maps.keyOf_int_mk Try.underlying3 (wf_i64' (by omega))) rfl hmf ?_
        intro es34 clock34 hmf34
        refine x_end ?_
        refine b_norm ?_
        refine t_norm ?_
        refine rg_text ?_
        refine x_val rfl rfl rfl (v_addi rfl rfl rfl (by first | omega | (dsimp only; omega))) ?_
        refine x_val rfl rfl rfl (v_move rfl) ?_
        refine x_end ?_
        exact l_norm (k + 1, es34, clock34, fupd mf (Value.int .i64 ps[k].field) (.int .i64 ps[k].kind)) ⟨by dsimp only; omega, hmf34, by dsimp only; rw [List.take_succ_eq_append_getElem hkl]; exact hof.yes⟩ (by simp only; omega) (by repeat (first | exact Sub.nil | refine Sub.cons rfl ?_)) (fun _ h => h.less (List.sublist_cons_self _ _) (fun _ h => h))
      · simp only [hb33, decide_eq_true_eq, decide_eq_false_iff_not, Bool.and_eq_true, Bool.or_eq_true, Bool.and_eq_false_iff, Bool.or_eq_false_iff, Bool.not_eq_true', Bool.not_eq_false', ne_eq, Decidable.not_not] at hc33
        refine w_skip ?_
        refine b_norm ?_
        refine t_norm ?_
        refine rg_text ?_
        refine x_val rfl rfl rfl (v_addi rfl rfl rfl (by first | omega | (dsimp only; omega))) ?_
        refine x_val rfl rfl rfl (v_move rfl) ?_
        refine x_end ?_
        exact l_norm (k + 1, es, clock, mf) ⟨by dsimp only; omega, hmf, by dsimp only; rw [List.take_succ_eq_append_getElem hkl]; exact hof.no (by omega)⟩ (by simp only; omega) (by repeat (first | exact Sub.nil | refine Sub.cons rfl ?_)) (fun _ h => h.less (List.sublist_cons_self _ _) (fun _ h => h))
    · simp only [hb28, decide_eq_true_eq, decide_eq_false_iff_not, Bool.and_eq_true, Bool.or_eq_true, Bool.and_eq_false_iff, Bool.or_eq_false_iff, Bool.not_eq_true', Bool.not_eq_false', ne_eq, Decidable.not_not] at hc28
      obtain rfl : k = ps.length := by omega
      rw [List.take_length] at hof
      refine w_exit ?_
      refine t_exit ?_
      refine t_exit ?_
      refine b_hit ?_
      refine t_norm ?_
      refine w_seq ?_
      refine w_seq ?_
      refine rg_text ?_
      refine x_val rfl rfl rfl (v_fieldAddr (off' := 2) Try.underlying32 rfl sz30 (by decide) rfl rfl) ?_
      refine x_val rfl rfl rfl (v_load Try.underlying30 rfl rfl (by first | exact at_ownL (.head _) rfl | exact at_ownL (.tail _ (.head _)) rfl | exact at_ownL (.tail _ (.tail _ (.head _))) rfl | (apply at_ownL; ((repeat (first | exact List.Mem.head _ | apply List.Mem.tail | apply List.mem_append_right))); rfl) | (refine at_ro (by first | exact .head _ | exact .tail _ (.head _) | exact .tail _ (.tail _ (.head _)) | simp) ?_ (by assumption); trivial))) ?_
      refine x_val rfl rfl rfl (v_len_slice Try.underlying30 rfl) ?_
      refine x_val rfl rfl rfl (v_move rfl) ?_
      refine x_end ?_
      refine t_norm ?_
      refine w_block ?_
      refine w_loop (σ := Nat) (fun n => n ≤ gs.length) (fun n => [(5, .bool true), (6, .pointer (some ⟨p6, 0, none⟩)), (7, v21), (8, .map (some p22)), (41, .slice AU gs.length cU), (42, Value.int .i64 gs.length), (43, Value.int .i64 (n : Nat))]) (fun n => [(p22, Obj.map es clock), (p6, Obj.cells [Value.int .u8 97, .int .u8 109, .slice AU gs.length cU].toArray 32)]) (fun n => [(w4, notOwn [(p6, Obj.cells [Value.int .u8 97, .int .u8 109, .slice AU gs.length cU].toArray 32)]), (w, fun _ => True)]) (fun n => gs.length - n) (0) (Nat.zero_le _) (l_start (by repeat (first | exact Sub.nil | refine Sub.cons rfl ?_)) (fun _ h => h.less (List.Sublist.refl _) (by intro s hs; simp only [List.mem_cons, List.not_mem_nil, or_false] at hs; rcases hs with rfl | rfl <;> simp))) ?_
      rintro n hn
      refine w_seq ?_
      refine rg_text ?_
      refine x_bool rfl rfl rfl (v_lss rfl rfl) ?_
      intro b44 hb44
      refine x_end ?_
      refine t_norm ?_
      refine w_seq ?_
      refine w_cond rfl (fun hc44 => ?_) (fun hc44 => ?_)
      · simp only [hb44, decide_eq_true_eq, decide_eq_false_iff_not, Bool.and_eq_true, Bool.or_eq_true, Bool.and_eq_false_iff, Bool.or_eq_false_iff, Bool.not_eq_true', Bool.not_eq_false', ne_eq, Decidable.not_not] at hc44
        have hnl : n < gs.length := by omega
        obtain ⟨_, _, e0, _, _, q0⟩ := id gf
        injection e0 with e1 e2 e3
        subst e1 e3
        obtain ⟨b0, o0, hA0, hD0, hb0, hc0⟩ := q0 (by omega)
        obtain ⟨cs0, hcs0, vS, rfl, hokn, hsub⟩ := hc0 n hnl
        generalize hgn : gs[n] = g at hcs0 hokn hsub
        obtain ⟨AS, cS, rfl, _⟩ := id hsub
        refine w_skip ?_
        refine t_norm ?_
        refine w_seq ?_
        refine w_block ?_
        refine w_seq ?_
        refine rg_text ?_
        refine x_val rfl rfl rfl (v_move rfl) ?_
        refine x_val rfl rfl rfl (v_indexAddr Try.underlying30 sz46 (congrArg (fun A => some (Value.slice A gs.length cU)) hA0) rfl (by first | omega | (dsimp only; omega)) rfl) ?_
        refine x_val rfl rfl rfl (v_loadN (vs := [Value.string g.tag, Value.string g.ind, Value.string g.data, .slice AS g.subs.length cS]) Try.underlying46 rfl sz46 rfl (fun i hi => at_ro (.head _) hD0.2 (hcs0 i hi))) ?_
        refine x_alloc rfl rfl rfl zr46 ?_
        intro p12
        refine x_val rfl rfl rfl (v_assign rfl) ?_
        refine x_store0 [] rfl rfl rfl rfl sz46 rfl rfl ?_
        refine x_end ?_
        refine t_norm ?_
        refine w_seq ?_
        refine rg_text ?_
        refine x_val rfl rfl rfl (v_assign rfl) ?_
        refine x_end ?_
        refine t_norm ?_
        refine w_seq ?_
        refine w_seq ?_
        refine rg_text ?_
        refine x_val rfl rfl rfl (v_move rfl) ?_
        refine x_val rfl rfl rfl (v_load_blk Try.underlying46 rfl rfl (by first | exact .head _ | exact .tail _ (.head _) | exact .tail _ (.tail _ (.head _)) | (repeat (first | exact List.Mem.head _ | apply List.Mem.tail | apply List.mem_append_right))) (by exact sz46)) ?_
        refine x_buildSliceL (cs := [Value.string g.tag, Value.string g.ind, Value.string g.data, .slice AS g.subs.length cS]) rfl rfl rfl Try.underlying30 sz46 zr46 rfl rfl rfl ?_
        intro p50
        refine x_val rfl rfl rfl (v_buildL (places := [(0, 1), (1, 1), (2, 1)]) Try.underlying32 zr32 (by kernel_rfl) rfl rfl) ?_
        refine x_call rfl rfl rfl Try.func18 (by kernel_rfl) rfl (fun w1 hw1 => c18w (kd := .int .u8 0) (lv := .int .u8 0) (rs := std) (fs := [g]) w1 (g21.keep (Kept.new hw1 (by repeat (first | exact List.Mem.head _ | apply List.Mem.tail)))) (lits_rd (n := 1) (b := p50) (D := fun _ => True) [[Value.string g.tag, Value.string g.ind, Value.string g.data, .slice AS g.subs.length cS]] (hw1.own_at (p50, _) (.head _)) rfl rfl (by show (1 : Nat) ≤ 9223372036854775807; decide) trivial ⟨⟨_, rfl, hokn, hsub.keep (Kept.new hw1 (by repeat (first | exact List.Mem.head _ | apply List.Mem.tail)))⟩, trivial⟩) (by show 1 + 24 < 8796093022208; decide)) ?_
        intro v52 wa52 wb52 hm52 hl52 hr52
        obtain ⟨hrd52, r52, rfl⟩ := hr52
        have hpl2 : (chk std [g]).length ≤ 25 := by have h1 := chkM_len std [g] std.length; have : std.length = 24 := rfl; unfold chk; simp only [List.length_singleton] at h1; omega
        generalize hps2 : chk std [g] = p2s at hrd52 hpl2 ⊢
        refine x_val rfl rfl rfl (v_len_slice Try.underlying35 rfl) ?_
        refine x_val rfl rfl rfl (v_move rfl) ?_
        refine x_end ?_
        refine t_norm ?_
        refine w_block ?_
        refine w_loop (σ := Nat) (fun j => j ≤ p2s.length) (fun j => [(5, .bool true), (6, .pointer (some ⟨p6, 0, none⟩)), (7, v21), (8, .map (some p22)), (41, .slice AU gs.length cU), (42, Value.int .i64 gs.length), (43, Value.int .i64 (n : Nat)), (11, Value.int .i64 (n : Nat)), (13, Value.int .i64 (lastK (p2s.take j) 0)), (52, rowV r52 p2s.length), (53, Value.int .i64 p2s.length), (54, Value.int .i64 (j : Nat))]) (fun j => [(p50, Obj.cells [Value.string g.tag, Value.string g.ind, Value.string g.data, .slice AS g.subs.length cS].toArray 46), (p12, Obj.cells [Value.string g.tag, Value.string g.ind, Value.string g.data, .slice AS g.subs.length cS].toArray 46), (p22, Obj.map es clock), (p6, Obj.cells [Value.int .u8 97, .int .u8 109, .slice AU gs.length cU].toArray 32)]) (fun j => [(wb52, notOwn [(p50, Obj.cells [Value.string g.tag, Value.string g.ind, Value.string g.data, .slice AS g.subs.length cS].toArray 46), (p12, Obj.cells [Value.string g.tag, Value.string g.ind, Value.string g.data, .slice AS g.subs.length cS].toArray 46), (p22, Obj.map es clock), (p6, Obj.cells [Value.int .u8 97, .int .u8 109, .slice AU gs.length cU].toArray 32)]), (w4, notOwn [(p6, Obj.cells [Value.int .u8 97, .int .u8 109, .slice AU gs.length cU].toArray 32)]), (w, fun _ => True)]) (fun j => p2s.length - j) (0) (Nat.zero_le _) (l_start (by repeat (first | exact Sub.nil | refine Sub.cons rfl ?_)) (fun _ h => h)) ?_
        rintro j hj
        refine w_seq ?_
        refine rg_text ?_
        refine x_bool rfl rfl rfl (v_lss rfl rfl) ?_
        intro b55 hb55
        refine x_end ?_
        refine t_norm ?_
        refine w_seq ?_
        refine w_cond rfl (fun hc55 => ?_) (fun hc55 => ?_)
        · simp only [hb55, decide_eq_true_eq, decide_eq_false_iff_not, Bool.and_eq_true, Bool.or_eq_true, Bool.and_eq_false_iff, Bool.or_eq_false_iff, Bool.not_eq_true', Bool.not_eq_false', ne_eq, Decidable.not_not] at hc55
          have hjl : j < p2s.length := by omega
          obtain ⟨_, _, e0, _, _, q0⟩ := id hrd52
          injection e0 with e1 e2 e3
          obtain ⟨b1, o1, hA1, hD1, hb1, hc1⟩ := q0 (by omega)
          obtain ⟨cs1, hcs1, hrd1⟩ := hc1 j (by omega)
          subst hrd1
          have hnot : notOwn [(p50, Obj.cells [Value.string g.tag, Value.string g.ind, Value.string g.data, .slice AS g.subs.length cS].toArray 46), (p12, Obj.cells [Value.string g.tag, Value.string g.ind, Value.string g.data, .slice AS g.subs.length cS].toArray 46), (p22, Obj.map es clock), (p6, Obj.cells [Value.int .u8 97, .int .u8 109, .slice AU gs.length cU].toArray 32)] b1 := fun q hq e => by have := hm52.lt hq; omega
          refine w_skip ?_
          refine t_norm ?_
          refine w_seq ?_
          refine w_block ?_
          refine w_seq ?_
          refine rg_text ?_
          refine x_val rfl rfl rfl (v_indexAddr Try.underlying35 sz54 (congrArg (fun A => some (Value.slice A p2s.length (rowC r52))) (e1.trans hA1)) rfl (by first | omega | (dsimp only; omega)) rfl) ?_
          refine x_val rfl rfl rfl (v_loadN (vs := [Value.int .i64 p2s[j].field, .int .i64 p2s[j].kind]) Try.underlying54 rfl sz54 rfl (fun i hi => at_ro (.head _) hnot (hcs1 i hi))) ?_
          refine x_alloc rfl rfl rfl zr54 ?_
          intro p15
          refine x_store0 [] rfl rfl rfl rfl sz54 rfl rfl ?_
          refine x_end ?_
          refine t_norm ?_
          refine w_seq ?_
          refine rg_text ?_
          refine x_val rfl rfl rfl (v_fieldAddr (off' := 0) Try.underlying54 rfl sz3 (by decide) rfl rfl) ?_
          refine x_val rfl rfl rfl (v_load Try.underlying3 rfl rfl (by first | exact at_ownL (.head _) rfl | exact at_ownL (.tail _ (.head _)) rfl | exact at_ownL (.tail _ (.tail _ (.head _))) rfl | (apply at_ownL; ((repeat (first | exact List.Mem.head _ | apply List.Mem.tail | apply List.mem_append_right))); rfl) | (refine at_ro (by first | exact .head _ | exact .tail _ (.head _) | exact .tail _ (.tail _ (.head _)) | simp) ?_ (by assumption); trivial))) ?_
          refine x_bool rfl rfl rfl (v_eql rfl rfl) ?_
          intro b60 hb60
          refine x_end ?_
          refine t_norm ?_
          refine w_cond rfl (fun hc60 => ?_) (fun hc60 => ?_)
          · simp only [hb60, decide_eq_true_eq, decide_eq_false_iff_not, Bool.and_eq_true, Bool.or_eq_true, Bool.and_eq_false_iff, Bool.or_eq_false_iff, Bool.not_eq_true', Bool.not_eq_false', ne_eq, Decidable.not_not] at hc60
            refine rg_text ?_
            refine x_val rfl rfl rfl (v_fieldAddr (off' := 1) Try.underlying54 rfl sz52 (by decide) rfl rfl) ?_
            refine x_val rfl rfl rfl (v_load Try.underlying52 rfl rfl (by first | exact at_ownL (.head _) rfl | exact at_ownL (.tail _ (.head _)) rfl | exact at_ownL (.tail _ (.tail _ (.head _))) rfl | (apply at_ownL; ((repeat (first | exact List.Mem.head _ | apply List.Mem.tail | apply List.mem_append_right))); rfl) | (refine at_ro (by first | exact .head _ | exact .tail _ (.head _) | exact .tail _ (.tail _ (.head _)) | simp) ?_ (by assumption); trivial))) ?_
            refine x_val rfl rfl rfl (v_assign rfl) ?_
            refine x_end ?_
            refine b_norm ?_
            refine t_norm ?_
            refine rg_text ?_
            refine x_val rfl rfl rfl (v_addi rfl rfl rfl (by first | omega | (dsimp only; omega))) ?_
            refine x_val rfl rfl rfl (v_move rfl) ?_
            refine x_end ?_
            have hls1 : lastK (p2s.take (j + 1)) 0 = p2s[j].kind := by rw [List.take_succ_eq_append_getElem hjl, lastK_snoc, if_pos hc60]
            exact l_norm (j + 1) (by omega) (by omega) (by repeat (first | exact Sub.nil | refine Sub.cons (by first | rfl | (rw [hls1]; rfl)) ?_)) (fun _ h => h.less (List.sublist_cons_self _ _) (fun _ h => h))
          · simp only [hb60, decide_eq_true_eq, decide_eq_false_iff_not, Bool.and_eq_true, Bool.or_eq_true, Bool.and_eq_false_iff, Bool.or_eq_false_iff, Bool.not_eq_true', Bool.not_eq_false', ne_eq, Decidable.not_not] at hc60
            refine w_skip ?_
            refine b_norm ?_
            refine t_norm ?_
            refine rg_text ?_
            refine x_val rfl rfl rfl (v_addi rfl rfl rfl (by first | omega | (dsimp only; omega))) ?_
            refine x_val rfl rfl rfl (v_move rfl) ?_
            refine x_end ?_
            have hls1 : lastK (p2s.take (j + 1)) 0 = lastK (p2s.take j) 0 := by rw [List.take_succ_eq_append_getElem hjl, lastK_snoc, if_neg hc60]
            exact l_norm (j + 1) (by omega) (by omega) (by repeat (first | exact Sub.nil | refine Sub.cons (by first | rfl | (rw [hls1]; rfl)) ?_)) (fun _ h => h.less (List.sublist_cons_self _ _) (fun _ h => h))
        · simp only [hb55, decide_eq_true_eq, decide_eq_false_iff_not, Bool.and_eq_true, Bool.or_eq_true, Bool.and_eq_false_iff, Bool.or_eq_false_iff, Bool.not_eq_true', Bool.not_eq_false', ne_eq, Decidable.not_not] at hc55
          obtain rfl : j = p2s.length := by omega
          refine w_exit ?_
          refine t_exit ?_
          refine t_exit ?_
          refine b_hit ?_
          refine t_norm ?_
          refine w_seq ?_
          refine rg_text ?_
          refine x_val rfl rfl rfl (v_move rfl) ?_
          refine x_val rfl rfl rfl (v_move rfl) ?_
          refine x_val rfl rfl rfl (v_lookup Try.underlying51 (Maps.int_keyed Try.underlying3) zr52 rfl rfl (Maps.keyOf_int_mk Try.underlying3 (wf_i64' (by omega))) (by repeat (first | exact List.Mem.head _ | apply List.Mem.tail)) hmf (hof n)) ?_
          refine x_bool rfl rfl rfl (v_neq rfl rfl) ?_
          intro b67 hb67
          refine x_val rfl rfl rfl (v_move rfl) ?_
          refine x_if [] rfl rfl rfl rfl rfl (fun hg => by obtain ⟨hg0, _⟩ := hg; subst hg0; (try simp only [List.cons_append, List.nil_append, gvl_nil, gvl_t, gvl_f]); exact v_move rfl) ?_
          refine x_if [] rfl rfl rfl rfl rfl (fun hg => by obtain ⟨hg0, _⟩ := hg; subst hg0; (try simp only [List.cons_append, List.nil_append, gvl_nil, gvl_t, gvl_f]); exact v_move rfl) ?_
          refine x_if [] rfl rfl rfl rfl rfl (fun hg => by obtain ⟨hg0, _⟩ := hg; subst hg0; (try simp only [List.cons_append, List.nil_append, gvl_nil, gvl_t, gvl_f]); exact v_move rfl) ?_
          refine x_if [] rfl rfl rfl rfl rfl (fun hg => by obtain ⟨hg0, _⟩ := hg; subst hg0; (try simp only [List.cons_append, List.nil_append, gvl_nil, gvl_t, gvl_f]); exact v_lookup Try.underlying51 (Maps.int_keyed Try.underlying3) zr52 rfl rfl (Maps.keyOf_int_mk Try.underlying3 (wf_i64' (by omega))) (by repeat (first | exact List.Mem.head _ | apply List.Mem.tail)) hmf (hof n)) ?_
          refine x_ifb [] rfl rfl rfl rfl rfl (fun hg => by obtain ⟨hg0, _⟩ := hg; subst hg0; (try simp only [List.cons_append, List.nil_append, gvl_nil, gvl_t, gvl_f]); exact v_neq rfl rfl) ?_
          intro b73 hb73
          refine x_bool rfl rfl rfl (v_and rfl rfl) ?_
          intro b74 hb74
          refine x_end ?_
          refine t_norm ?_
          refine w_cond rfl (fun hc74 => ?_) (fun hc74 => ?_)
          · exfalso
            simp only [hb74, hb73, hb67, Bool.and_eq_true, decide_eq_true_eq, ne_eq] at hc74
            subst hps hps2 hgn
            exact hc74.2 (by rw [List.take_length]; exact alone_law std gs n hnl hc74.1)
          · simp only [hb74, hb73, hb67, decide_eq_true_eq, decide_eq_false_iff_not, Bool.and_eq_true, Bool.or_eq_true, Bool.and_eq_false_iff, Bool.or_eq_false_iff, Bool.not_eq_true', Bool.not_eq_false', ne_eq, Decidable.not_not] at hc74
            refine w_skip ?_
            refine b_norm ?_
            refine t_norm ?_
            refine rg_text ?_
            refine x_val rfl rfl rfl (v_addi rfl rfl rfl (by first | omega | (dsimp only; omega))) ?_
            refine x_val rfl rfl rfl (v_move rfl) ?_
            refine x_end ?_
            exact l_norm (n + 1) (by omega) (by omega) (by repeat (first | exact Sub.nil | refine Sub.cons rfl ?_)) (fun _ h => h.less (((List.Sublist.refl _).cons _).cons _) (fun s hs => .tail _ hs))
      · simp only [hb44, decide_eq_true_eq, decide_eq_false_iff_not, Bool.and_eq_true, Bool.or_eq_true, Bool.and_eq_false_iff, Bool.or_eq_false_iff, Bool.not_eq_true', Bool.not_eq_false', ne_eq, Decidable.not_not] at hc44
        refine w_exit ?_
        refine t_exit ?_
        refine t_exit ?_
        refine b_hit ?_
        refine t_norm ?_
        refine w_seq ?_
        refine rg_text ?_
        refine x_val rfl rfl rfl (v_move rfl) ?_
        refine x_val rfl rfl rfl (v_assign rfl) ?_
        refine x_end ?_
        refine t_norm ?_
        refine w_ret ?_
        refine ret1 rfl rfl (fun w' hm => ⟨?_, hm.base (by simp)⟩)
        rfl

end Go.Proofs.Ytmihkbciilloaaa
