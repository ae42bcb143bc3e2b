import Derived.Test.YtmihkbciilloaaaVa
import Derived.Test.YtmihkbciilloaaaPkTree
import Derived.Test.YtmihkbciilloaaaPkTexts
namespace Go.Proofs.Ytmihkbciilloaaa
open Go.RowKit Go.PK
set_option linter.unusedVariables false
set_option linter.unusedSimpArgs false

theorem c14o {own : List (Nat × Obj)} {ro : List Snap} {v : Value} {ls : List I4} {D : Nat → Prop} (w : World) (hm : Mem w own ro) (hfs : sliceRd tyFl D w v (made ls)) :
    Calls Try.prog 14 #[.agg #[.int .u8 97, .int .u8 109, v], .agg #[.int .i64 8, .int .i64 0, .int .i64 0]] w fun e w' => ∃ x : RowS × List RowS, e = .returned (.agg #[.int .u8 97, .int .u8 109, rowV x.1 (made ls).length]) ∧ Later w w' ∧ DeepOK x.1 x.2 (made ls) ∧ Mem w' (subsO x.2 ++ (rowO 46 x.1 ++ own)) ro :=
  Calls.mono (c14 1000 w hfs (by unfold in64; omega) (by unfold in64; omega) (by unfold in64; omega) ⟨by omega, by omega⟩ (by have := made_len ls; omega) (made_small ls)) fun e w' ⟨R, Ss, gs, h1, h2, h3, h4, h5, h6, h7⟩ => by
    obtain rfl := h7 (by decide)
    exact ⟨(R, Ss), h1, h2, h3, (add_row hm h2 h4).to (by rw [List.append_assoc])⟩
set_option maxRecDepth 100000 in
theorem c8 {v : Value} {ls : List I4} {tx : ByteArray} {D : Nat → Prop} (w : World) (hls : sliceRd tyI4 D w v ls) (ht : okS tx) :
    Calls Try.prog 8 #[v, .string tx] w fun e w' => e = .returned (.bool (true)) ∧ Later w w' := by
  refine enter (vs := [v, .string tx]) Try.func8 rfl Try.ntmps8 rfl ?_
  refine w_seq ?_
  refine rg_text ?_
  refine x_val rfl rfl rfl (v_assign rfl) ?_
  refine x_end ?_
  refine t_norm ?_
  refine w_seq ?_
  refine rg_text ?_
  refine x_callb rfl rfl rfl Try.func11 (by kernel_rfl) rfl (fun w1 hw1 => c11 w1) ?_
  intro b12 hb12
  obtain rfl : b12 = true := hb12
  refine x_val rfl rfl rfl (v_assign rfl) ?_
  refine x_end ?_
  refine t_norm ?_
  refine w_seq ?_
  refine rg_text ?_
  refine x_val rfl rfl rfl (v_move rfl) ?_
  refine x_call rfl rfl rfl Try.func15 (by kernel_rfl) rfl (fun w1 hw1 => c15n w1 (hls.keep (Kept.later (hw1.base (by simp))))) ?_
  intro v14 wa14 wb14 hm14 hl14 hr14
  obtain ⟨u14, rfl, hrd14⟩ := hr14
  obtain ⟨A14, cp14, hu14, _⟩ := id hrd14
  subst hu14
  refine x_alloc rfl rfl rfl zr32 ?_
  intro p6
  refine x_store0 [] rfl rfl rfl rfl sz32 rfl rfl ?_
  refine x_end ?_
  refine t_norm ?_
  refine w_seq ?_
  refine rg_text ?_
  refine x_call rfl rfl rfl Try.func12 (by kernel_rfl) rfl (fun w1 hw1 => c12n w1) ?_
  intro v15 wa15 wb15 hm15 hl15 hr15
  refine x_val rfl rfl rfl (v_assign rfl) ?_
  refine x_end ?_
  refine t_norm ?_
  refine w_seq ?_
  refine rg_text ?_
  refine x_val rfl rfl rfl (v_move rfl) ?_
  refine x_val rfl rfl rfl (v_load_blk Try.underlying32 rfl rfl (by first | exact .head _ | exact .tail _ (.head _) | exact .tail _ (.tail _ (.head _)) | (repeat (first | exact List.Mem.head _ | apply List.Mem.tail | apply List.mem_append_right))) (by exact sz32)) ?_
  refine x_call rfl rfl rfl Try.func18 (by kernel_rfl) rfl (fun w1 hw1 => c18w (rs := std) (fs := made ls) w1 (keep_new hr15 hw1 (by repeat (first | exact List.Mem.head _ | apply List.Mem.tail)) hm15) (keep_new hrd14 hw1 (by repeat (first | exact List.Mem.head _ | apply List.Mem.tail)) hm14) (by have := made_len ls; have : std.length = 24 := rfl; omega)) ?_
  intro v18 wa18 wb18 hm18 hl18 hr18
  obtain ⟨hrd18, r18, rfl⟩ := hr18
  refine x_val rfl rfl rfl (v_assign rfl) ?_
  refine x_end ?_
  refine t_norm ?_
  refine w_seq ?_
  refine w_fix [(p6, Obj.cells [Value.int .u8 97, .int .u8 109, .slice A14 (made ls).length cp14].toArray 32)] (List.Sublist.refl _) (fun w5 hm5 => ?_)
  have g14 := hrd14.keep (Kept.made (w := w) hm5 (by repeat (first | exact List.Mem.head _ | apply List.Mem.tail)) hm14 (hm14.base (by simp)).size)
  have g15 := hr15.keep (Kept.made (w := w) hm5 (by repeat (first | exact List.Mem.head _ | apply List.Mem.tail)) hm15 (hm15.base (by simp)).size)
  have g18 := hrd18.keep (Kept.made (w := w) hm5 (by repeat (first | exact List.Mem.head _ | apply List.Mem.tail)) hm18 (hm18.base (by simp)).size)
  refine rg_text ?_
  refine x_val rfl rfl rfl (v_load_blk Try.underlying32 rfl rfl (by first | exact .head _ | exact .tail _ (.head _) | exact .tail _ (.tail _ (.head _)) | (repeat (first | exact List.Mem.head _ | apply List.Mem.tail | apply List.mem_append_right))) (by exact sz32)) ?_
  refine x_val rfl rfl rfl (v_buildArr Try.underlying29 zr29 sz3 rfl rfl) ?_
  refine x_own (τ := RowS × List RowS) (fun x => .agg #[.int .u8 97, .int .u8 109, rowV x.1 (made ls).length]) (fun x => DeepOK x.1 x.2 (made ls)) (fun x => subsO x.2 ++ (rowO 46 x.1 ++ [(p6, Obj.cells [Value.int .u8 97, .int .u8 109, .slice A14 (made ls).length cp14].toArray 32)])) rfl rfl rfl Try.func14 (by kernel_rfl) rfl (fun w1 hw1 => c14o w1 hw1 (g14.keep (Kept.new hw1 (by repeat (first | exact List.Mem.head _ | apply List.Mem.tail))))) ?_
  rintro ⟨R, Ss0⟩ hd0
  dsimp only at hd0
  refine x_alloc rfl rfl rfl zr32 ?_
  intro p9
  refine x_store0 [] rfl rfl rfl rfl sz32 rfl rfl ?_
  refine x_end ?_
  refine t_norm ?_
  refine w_seq ?_
  refine rg_text ?_
  refine x_val rfl rfl rfl (v_fieldAddr (off' := 0) Try.underlying32 rfl sz5 (by decide) rfl rfl) ?_
  refine x_store [] rfl rfl rfl rfl sz5 rfl (by show 1 ≤ 3; decide) ?_
  refine x_val rfl rfl rfl (v_fieldAddr (off' := 1) Try.underlying32 rfl sz5 (by decide) rfl rfl) ?_
  refine x_store [] rfl rfl rfl rfl sz5 rfl (by show 2 ≤ 3; decide) ?_
  refine x_end ?_
  refine t_norm ?_
  refine w_seq ?_
  refine w_seq ?_
  refine rg_text ?_
  refine x_val rfl rfl rfl (v_fieldAddr (off' := 2) Try.underlying32 rfl sz30 (by decide) rfl rfl) ?_
  refine x_val rfl rfl rfl (v_load Try.underlying30 rfl rfl (by first | exact at_ownL (.head _) rfl | exact at_ownL (.tail _ (.head _)) rfl | exact at_ownL (.tail _ (.tail _ (.head _))) rfl | (apply at_ownL; ((repeat (first | exact List.Mem.head _ | apply List.Mem.tail | apply List.mem_append_right))); rfl) | (refine at_ro (by first | exact .head _ | exact .tail _ (.head _) | exact .tail _ (.tail _ (.head _)) | simp) ?_ (by assumption); trivial))) ?_
  refine x_val rfl rfl rfl (v_len_slice Try.underlying30 rfl) ?_
  refine x_val rfl rfl rfl (v_move rfl) ?_
  refine x_end ?_
  refine t_norm ?_
  refine w_block ?_
  refine w_loop (σ := Nat × List RowS × List Fl) (fun x => x.1 ≤ (made ls).length ∧ DeepOK R x.2.1 x.2.2 ∧ sameTs (made ls) x.2.2) (fun x => [(1, .string tx), (5, .bool true), (7, v15), (8, rowV r18 (chk std (made ls)).length), (9, .pointer (some ⟨p9, 0, none⟩)), (26, Value.int .i64 (made ls).length), (27, Value.int .i64 (x.1 : Nat))]) (fun x => (p9, Obj.cells [Value.int .u8 120, .int .u8 0, rowV (R) (made ls).length].toArray 32) :: (subsO (x.2.1) ++ (rowO 46 (R) ++ [(p6, Obj.cells [Value.int .u8 97, .int .u8 109, .slice A14 (made ls).length cp14].toArray 32)]))) (fun x => [(w5, notOwn [(p6, Obj.cells [Value.int .u8 97, .int .u8 109, .slice A14 (made ls).length cp14].toArray 32)]), (w, fun _ => True)]) (fun x => (made ls).length - x.1) ((0, Ss0, made ls)) (⟨Nat.zero_le _, hd0, sameTs.refl _⟩) (l_start (by repeat (first | exact Sub.nil | refine Sub.cons rfl ?_)) (fun _ h => h.less (List.Sublist.refl _) (by intro s hs; simp only [List.mem_cons, List.not_mem_nil, or_false] at hs; rcases hs with rfl | rfl <;> simp))) ?_
  rintro ⟨k, Ss, gs⟩ ⟨hk, hd, hsame⟩
  refine w_state ([(1, .string tx), (5, .bool true), (7, v15), (8, rowV r18 (chk std (made ls)).length), (9, .pointer (some ⟨p9, 0, none⟩)), (26, Value.int .i64 (made ls).length), (27, Value.int .i64 (k : Nat))]) ((p9, Obj.cells [Value.int .u8 120, .int .u8 0, rowV (R) (made ls).length].toArray 32) :: (subsO (Ss) ++ (rowO 46 (R) ++ [(p6, Obj.cells [Value.int .u8 97, .int .u8 109, .slice A14 (made ls).length cp14].toArray 32)]))) ([(w5, notOwn [(p6, Obj.cells [Value.int .u8 97, .int .u8 109, .slice A14 (made ls).length cp14].toArray 32)]), (w, fun _ => True)]) ?_
  dsimp only at hk hd hsame
  refine w_seq ?_
  refine rg_text ?_
  refine x_bool rfl rfl rfl (v_lss rfl rfl) ?_
  intro b28 hb28
  refine x_end ?_
  refine t_norm ?_
  refine w_seq ?_
  refine w_cond rfl (fun hc28 => ?_) (fun hc28 => ?_)
  · simp only [hb28, decide_eq_true_eq, decide_eq_false_iff_not, Bool.and_eq_true, Bool.or_eq_true, Bool.and_eq_false_iff, Bool.or_eq_false_iff, Bool.not_eq_true', Bool.not_eq_false', ne_eq, Decidable.not_not] at hc28
    have hkg : k < gs.length := by have := hsame.1; omega
    have hkn : k < (made ls).length := by omega
    have hS : k < Ss.length := by rw [hd.len]; exact hkg
    obtain ⟨bR, csR, cap, rfl, hc1, hc2, hc3, hc4⟩ := hd.there (by omega)
    obtain ⟨m, hm⟩ : ∃ m, gs[k].subs.length = m := ⟨_, rfl⟩
    have hml : m ≤ 1000 := by have h1 := (hsame.2 k hkn hkg).2.2.2; have h2 := congrArg List.length h1; simp only [List.length_map] at h2; have h3 := (made_small ls _ (List.getElem_mem hkn)).2; omega
    refine w_skip ?_
    refine t_norm ?_
    refine w_seq ?_
    refine w_block ?_
    refine w_seq ?_
    refine rg_text ?_
    refine x_val rfl rfl rfl (v_move rfl) ?_
    refine x_val rfl rfl rfl (v_assign rfl) ?_
    refine x_end ?_
    refine t_norm ?_
    refine w_seq ?_
    refine rg_text ?_
    refine x_val rfl rfl rfl (v_fieldAddr (off' := 2) Try.underlying32 rfl sz30 (by decide) rfl rfl) ?_
    refine x_val rfl rfl rfl (v_load Try.underlying30 rfl rfl (by first | exact at_ownL (.head _) rfl | exact at_ownL (.tail _ (.head _)) rfl | exact at_ownL (.tail _ (.tail _ (.head _))) rfl | (apply at_ownL; ((repeat (first | exact List.Mem.head _ | apply List.Mem.tail | apply List.mem_append_right))); rfl) | (refine at_ro (by first | exact .head _ | exact .tail _ (.head _) | exact .tail _ (.tail _ (.head _)) | simp) ?_ (by assumption); trivial))) ?_
    refine x_val rfl rfl rfl (v_move rfl) ?_
    refine x_val rfl rfl rfl (v_indexAddr (j := k) (off' := k * 4) Try.underlying30 sz46 rfl rfl hkn (Nat.zero_add _)) ?_
    refine x_val rfl rfl rfl (v_fieldAddr Try.underlying46 rfl sz44 (by decide) rfl rfl) ?_
    refine x_val rfl rfl rfl (v_load Try.underlying44 rfl rfl (at_ownL (vs := csR) (.tail _ (List.mem_append_right _ (.head _))) (hd.at (i := 3) hkg hS (by omega)))) ?_
    refine x_val (v := Value.int .i64 (m : Nat)) rfl rfl rfl (by rw [← hm]; exact v_len_slice Try.underlying44 rfl) ?_
    refine x_val rfl rfl rfl (v_move rfl) ?_
    refine x_end ?_
    refine t_norm ?_
    refine w_block ?_
    refine w_loop (σ := Nat × List RowS × List Fl) (fun y => y.1 ≤ m ∧ DeepOK (some (bR, csR, cap)) y.2.1 y.2.2 ∧ sameTs (made ls) y.2.2 ∧ ∃ hk : k < y.2.2.length, y.2.2[k].subs.length = m) (fun y => [(1, .string tx), (5, .bool true), (7, v15), (8, rowV r18 (chk std (made ls)).length), (9, .pointer (some ⟨p9, 0, none⟩)), (26, Value.int .i64 (made ls).length), (27, Value.int .i64 (k : Nat)), (10, Value.int .i64 (k : Nat)), (36, Value.int .i64 (m : Nat)), (37, Value.int .i64 (y.1 : Nat))]) (fun y => (p9, Obj.cells [Value.int .u8 120, .int .u8 0, rowV (some (bR, csR, cap)) (made ls).length].toArray 32) :: (subsO (y.2.1) ++ (rowO 46 (some (bR, csR, cap)) ++ [(p6, Obj.cells [Value.int .u8 97, .int .u8 109, .slice A14 (made ls).length cp14].toArray 32)]))) (fun y => [(w5, notOwn [(p6, Obj.cells [Value.int .u8 97, .int .u8 109, .slice A14 (made ls).length cp14].toArray 32)]), (w, fun _ => True)]) (fun y => m - y.1) ((0, Ss, gs)) (⟨Nat.zero_le _, hd, hsame, hkg, hm⟩) (l_start (by repeat (first | exact Sub.nil | refine Sub.cons rfl ?_)) (fun _ h => h)) ?_
    rintro ⟨j, Ss, gs⟩ ⟨hj, hd, hsame, hkg, hm⟩
    refine w_state ([(1, .string tx), (5, .bool true), (7, v15), (8, rowV r18 (chk std (made ls)).length), (9, .pointer (some ⟨p9, 0, none⟩)), (26, Value.int .i64 (made ls).length), (27, Value.int .i64 (k : Nat)), (10, Value.int .i64 (k : Nat)), (36, Value.int .i64 (m : Nat)), (37, Value.int .i64 (j : Nat))]) ((p9, Obj.cells [Value.int .u8 120, .int .u8 0, rowV (some (bR, csR, cap)) (made ls).length].toArray 32) :: (subsO (Ss) ++ (rowO 46 (some (bR, csR, cap)) ++ [(p6, Obj.cells [Value.int .u8 97, .int .u8 109, .slice A14 (made ls).length cp14].toArray 32)]))) ([(w5, notOwn [(p6, Obj.cells [Value.int .u8 97, .int .u8 109, .slice A14 (made ls).length cp14].toArray 32)]), (w, fun _ => True)]) ?_
    dsimp only at hj hd hsame hkg hm
    refine w_seq ?_
    refine rg_text ?_
    refine x_bool rfl rfl rfl (v_lss rfl rfl) ?_
    intro b38 hb38
    refine x_end ?_
    refine t_norm ?_
    refine w_seq ?_
    refine w_cond rfl (fun hc38 => ?_) (fun hc38 => ?_)
    · simp only [hb38, decide_eq_true_eq, decide_eq_false_iff_not, Bool.and_eq_true, Bool.or_eq_true, Bool.and_eq_false_iff, Bool.or_eq_false_iff, Bool.not_eq_true', Bool.not_eq_false', ne_eq, Decidable.not_not] at hc38
      have hjm : j < m := by omega
      have hkn : k < (made ls).length := by have := hsame.1; omega
      have hS : k < Ss.length := by rw [hd.len]; exact hkg
      obtain ⟨bS, csS, cS, hSk, hSl⟩ := hd.sub_at hkg hS (by omega)
      refine w_skip ?_
      refine t_norm ?_
      refine w_seq ?_
      refine w_block ?_
      refine w_seq ?_
      refine rg_text ?_
      refine x_val rfl rfl rfl (v_move rfl) ?_
      refine x_val rfl rfl rfl (v_assign rfl) ?_
      refine x_end ?_
      refine t_norm ?_
      refine rg_text ?_
      refine x_val rfl rfl rfl (v_fieldAddr (off' := 2) Try.underlying32 rfl sz30 (by decide) rfl rfl) ?_
      refine x_val rfl rfl rfl (v_load Try.underlying30 rfl rfl (by first | exact at_ownL (.head _) rfl | exact at_ownL (.tail _ (.head _)) rfl | exact at_ownL (.tail _ (.tail _ (.head _))) rfl | (apply at_ownL; ((repeat (first | exact List.Mem.head _ | apply List.Mem.tail | apply List.mem_append_right))); rfl) | (refine at_ro (by first | exact .head _ | exact .tail _ (.head _) | exact .tail _ (.tail _ (.head _)) | simp) ?_ (by assumption); trivial))) ?_
      refine x_val rfl rfl rfl (v_move rfl) ?_
      refine x_val rfl rfl rfl (v_indexAddr (j := k) (off' := k * 4) Try.underlying30 sz46 rfl rfl hkn (Nat.zero_add _)) ?_
      refine x_val rfl rfl rfl (v_fieldAddr Try.underlying46 rfl sz44 (by decide) rfl rfl) ?_
      refine x_val rfl rfl rfl (v_load Try.underlying44 rfl rfl (at_ownL (vs := csR) (.tail _ (List.mem_append_right _ (.head _))) (hd.at (i := 3) hkg hS (by omega)))) ?_
      refine x_val rfl rfl rfl (v_move rfl) ?_
      refine x_val rfl rfl rfl (v_move rfl) ?_
      refine x_val rfl rfl rfl (v_indexAddr (j := j) (off' := j * 2) Try.underlying44 sz48 (show some (rowV Ss[k] gs[k].subs.length) = some (.slice (some ⟨bS, 0, none⟩) gs[k].subs.length cS) by rw [hSk]; rfl) rfl (by omega) (Nat.zero_add _)) ?_
      refine x_val rfl rfl rfl (v_fieldAddr Try.underlying48 rfl sz9 (by decide) rfl rfl) ?_
      refine x_store ((p9, Obj.cells [Value.int .u8 120, .int .u8 0, rowV (some (bR, csR, cap)) (made ls).length].toArray 32) :: subsO (Ss.drop (k + 1))) (l2 := subsO (Ss.take k) ++ (rowO 46 (some (bR, csR, cap)) ++ [(p6, Obj.cells [Value.int .u8 97, .int .u8 109, .slice A14 (made ls).length cp14].toArray 32)])) (cs := csS) (e := 48) (off := j * 2 + 1) rfl rfl rfl (by rw [subsO_split hS, hSk]; simp only [rowO, List.append_assoc, List.cons_append, List.nil_append]) sz9 rfl (by omega) ?_
      refine x_end ?_
      refine b_norm ?_
      refine t_norm ?_
      refine rg_text ?_
      refine x_val rfl rfl rfl (v_addi rfl rfl rfl (by first | omega | (dsimp only; omega))) ?_
      refine x_val rfl rfl rfl (v_move rfl) ?_
      refine x_end ?_
      exact l_norm (j + 1, Ss.set k (some (bS, csS.take (j * 2 + 1) ++ [Value.string tx] ++ csS.drop (j * 2 + 1 + 1), cS)), gs.set k (retx gs[k] j tx)) ⟨by dsimp only; omega, hd.retext hkg hS hSk (by omega) ht, hsame.set hkg (retx_same _ _ _), by dsimp only; rw [List.length_set]; exact hkg, by dsimp only; rw [List.getElem_set_self, retx_len]; exact hm⟩ (by simp only; omega) (by repeat (first | exact Sub.nil | refine Sub.cons rfl ?_)) (fun _ h => by dsimp only; rw [subsO_set hS]; exact h.to (show ((p9, Obj.cells [Value.int .u8 120, .int .u8 0, rowV (some (bR, csR, cap)) (made ls).length].toArray 32) :: subsO (Ss.drop (k + 1))) ++ ((bS, _) :: (subsO (Ss.take k) ++ (rowO 46 (some (bR, csR, cap)) ++ [(p6, Obj.cells [Value.int .u8 97, .int .u8 109, .slice A14 (made ls).length cp14].toArray 32)]))) = _ from by simp only [rowO, List.append_assoc, List.cons_append, List.nil_append]; rfl))
    · simp only [hb38, decide_eq_true_eq, decide_eq_false_iff_not, Bool.and_eq_true, Bool.or_eq_true, Bool.and_eq_false_iff, Bool.or_eq_false_iff, Bool.not_eq_true', Bool.not_eq_false', ne_eq, Decidable.not_not] at hc38
      refine w_exit ?_
      refine t_exit ?_
      refine t_exit ?_
      refine b_hit ?_
      refine b_norm ?_
      refine t_norm ?_
      refine rg_text ?_
      refine x_val rfl rfl rfl (v_addi rfl rfl rfl (by first | omega | (dsimp only; omega))) ?_
      refine x_val rfl rfl rfl (v_move rfl) ?_
      refine x_end ?_
      exact l_norm (k + 1, Ss, gs) ⟨by dsimp only; have := hsame.1; omega, hd, hsame⟩ (by simp only; have := hsame.1; omega) (by repeat (first | exact Sub.nil | refine Sub.cons rfl ?_)) (fun _ h => h)
  · simp only [hb28, decide_eq_true_eq, decide_eq_false_iff_not, Bool.and_eq_true, Bool.or_eq_true, Bool.and_eq_false_iff, Bool.or_eq_false_iff, Bool.not_eq_true', Bool.not_eq_false', ne_eq, Decidable.not_not] at hc28
    refine w_exit ?_
    refine t_exit ?_
    refine t_exit ?_
    refine b_hit ?_
    refine t_norm ?_
    refine w_seq ?_
    refine rg_text ?_
    refine x_val rfl rfl rfl (v_move rfl) ?_
    refine x_val rfl rfl rfl (v_move rfl) ?_
    refine x_if [] rfl rfl rfl rfl rfl (fun hg => by obtain ⟨hg0, _⟩ := hg; (try simp only [List.cons_append, List.nil_append, gvl_nil, gvl_t, gvl_f]); exact v_move rfl) ?_
    refine x_if [] rfl rfl rfl rfl rfl (fun hg => by obtain ⟨hg0, _⟩ := hg; (try simp only [List.cons_append, List.nil_append, gvl_nil, gvl_t, gvl_f]); exact v_move rfl) ?_
    refine x_if [] rfl rfl rfl rfl rfl (fun hg => by obtain ⟨hg0, _⟩ := hg; (try simp only [List.cons_append, List.nil_append, gvl_nil, gvl_t, gvl_f]); exact v_load_blk Try.underlying32 rfl rfl (by first | exact .head _ | exact .tail _ (.head _) | exact .tail _ (.tail _ (.head _)) | (repeat (first | exact List.Mem.head _ | apply List.Mem.tail | apply List.mem_append_right))) (by exact sz32)) ?_
    refine x_call_g rfl rfl rfl rfl rfl Try.func18 (by kernel_rfl) rfl (fun w1 hw1 => c18w (rs := std) (fs := gs) w1 (g15.keep (Kept.new hw1 (by repeat (first | exact List.Mem.head _ | apply List.Mem.tail)))) (show sliceRd tyFl (fun _ => True) w1 (rowV R (made ls).length) gs by rw [hsame.1]; exact hd.rd hw1 (fun p hp => .tail _ (List.mem_append_right _ (List.mem_append_left _ hp))) (fun p hp => .tail _ (List.mem_append_left _ hp)) (fun _ _ => trivial)) (by have := made_len ls; have := hsame.1; have : std.length = 24 := rfl; omega)) ?_
    intro v57 wa57 wb57 hm57 hl57 hr57
    obtain ⟨hrd57, r57, rfl⟩ := hr57
    refine x_call_ifb [] rfl rfl rfl rfl rfl Try.func17 (by kernel_rfl) (fun hg => by obtain ⟨hg0, _⟩ := hg; (try simp only [List.cons_append, List.nil_append, gvl_nil, gvl_t, gvl_f]); refine ⟨_, rfl, ?_⟩; exact fun w1 hw1 => c17 w1 (g18.keep (Kept.new hw1 (by repeat (first | exact List.Mem.head _ | apply List.Mem.tail)))) (keep_new hrd57 hw1 (by repeat (first | exact List.Mem.head _ | apply List.Mem.tail)) hm57)) ?_
    intro b58 hb58
    obtain rfl : b58 = true := by rw [hb58, chk_same hsame]; simp
    refine x_bool rfl rfl rfl (v_and rfl rfl) ?_
    intro b59 hb59
    obtain rfl : b59 = true := by rw [hb59]; rfl
    refine x_val rfl rfl rfl (v_assign rfl) ?_
    refine x_end ?_
    refine t_norm ?_
    refine w_ret ?_
    refine ret1 rfl rfl (fun w' hm => ⟨?_, hm.base (by simp)⟩)
    rfl

end Go.Proofs.Ytmihkbciilloaaa
