import Derived.Test.YtmihkbciilloaaaWv
import Derived.Test.YtmihkbciilloaaaPkGuard
namespace Go.Proofs.Ytmihkbciilloaaa
open Go.RowKit Go.PK
set_option linter.unusedVariables false
set_option linter.unusedSimpArgs false
set_option maxRecDepth 100000 in
theorem c9 {v0 v : Value} {xs ls : List I4} {D0 D : Nat → Prop} (w : World) (hxs : sliceRd tyI4 D0 w v0 xs) (hls : sliceRd tyI4 D w v ls) :
    Calls Try.prog 9 #[v0, v] w fun e w' => e = .returned (.bool (true)) ∧ Later w w' := by
  refine enter (vs := [v0, v]) Try.func9 rfl Try.ntmps9 rfl ?_
  refine w_seq ?_
  refine rg_text ?_
  refine x_val rfl rfl rfl (v_assign rfl) ?_
  refine x_end ?_
  refine t_norm ?_
  refine w_seq ?_
  refine rg_text ?_
  refine x_callb rfl rfl rfl Try.func11 (by kernel_rfl) rfl (fun w1 hw1 => c11 w1) ?_
  intro b11 hb11
  obtain rfl : b11 = true := hb11
  refine x_val rfl rfl rfl (v_assign rfl) ?_
  refine x_end ?_
  refine t_norm ?_
  refine w_seq ?_
  refine rg_text ?_
  refine x_val rfl rfl rfl (v_move rfl) ?_
  refine x_call rfl rfl rfl Try.func15 (by kernel_rfl) rfl (fun w1 hw1 => c15n w1 (hls.keep (Kept.later (hw1.base (by simp))))) ?_
  intro v13 wa13 wb13 hm13 hl13 hr13
  obtain ⟨u13, rfl, hrd13⟩ := hr13
  obtain ⟨A13, cp13, hu13, _⟩ := id hrd13
  subst hu13
  refine x_alloc rfl rfl rfl zr32 ?_
  intro p6
  refine x_store0 [] rfl rfl rfl rfl sz32 rfl rfl ?_
  refine x_end ?_
  refine t_norm ?_
  refine w_seq ?_
  refine rg_text ?_
  refine x_val rfl rfl rfl (v_move rfl) ?_
  refine x_call rfl rfl rfl Try.func20 (by kernel_rfl) rfl (fun w1 hw1 => c20 w1 (hxs.keep (Kept.later (hw1.base (by simp))))) ?_
  intro v15 wa15 wb15 hm15 hl15 hr15
  obtain ⟨A15, cp15, hu15, _⟩ := id hr15
  subst hu15
  refine x_val rfl rfl rfl (v_assign rfl) ?_
  refine x_end ?_
  refine t_norm ?_
  refine w_seq ?_
  refine rg_text ?_
  refine x_val rfl rfl rfl (v_assign rfl) ?_
  refine x_end ?_
  refine t_norm ?_
  refine w_seq ?_
  refine w_seq ?_
  refine rg_text ?_
  refine x_val rfl rfl rfl (v_move rfl) ?_
  refine x_val rfl rfl rfl (v_len_slice Try.underlying23 rfl) ?_
  refine x_val rfl rfl rfl (v_move rfl) ?_
  refine x_end ?_
  refine t_norm ?_
  refine w_block ?_
  refine w_loop (σ := Nat × RowS) (fun x => x.1 ≤ (rulesOf xs).length ∧ RowT tyRl (fun _ => False) w x.2 (((rulesOf xs).take x.1).map dull)) (fun x => [(5, .bool true), (6, .pointer (some ⟨p6, 0, none⟩)), (7, .slice A15 (rulesOf xs).length cp15), (8, rowV x.2 x.1), (16, .slice A15 (rulesOf xs).length cp15), (17, Value.int .i64 (rulesOf xs).length), (18, Value.int .i64 (x.1 : Nat))]) (fun x => rowO 27 x.2 ++ [(p6, Obj.cells [Value.int .u8 97, .int .u8 109, .slice A13 (made ls).length cp13].toArray 32)]) (fun x => [(wb15, notOwn [(p6, Obj.cells [Value.int .u8 97, .int .u8 109, .slice A13 (made ls).length cp13].toArray 32)]), (wb13, notOwn []), (w, fun _ => True)]) (fun x => (rulesOf xs).length - x.1) ((0, none)) (⟨Nat.zero_le _, RowT.nil⟩) (l_start (by repeat (first | exact Sub.nil | refine Sub.cons rfl ?_)) (fun _ h => h)) ?_
  rintro ⟨k, R⟩ ⟨hk, hT⟩
  refine w_state ([(5, .bool true), (6, .pointer (some ⟨p6, 0, none⟩)), (7, .slice A15 (rulesOf xs).length cp15), (8, rowV R k), (16, .slice A15 (rulesOf xs).length cp15), (17, Value.int .i64 (rulesOf xs).length), (18, Value.int .i64 (k : Nat))]) (rowO 27 R ++ [(p6, Obj.cells [Value.int .u8 97, .int .u8 109, .slice A13 (made ls).length cp13].toArray 32)]) ([(wb15, notOwn [(p6, Obj.cells [Value.int .u8 97, .int .u8 109, .slice A13 (made ls).length cp13].toArray 32)]), (wb13, notOwn []), (w, fun _ => True)]) ?_
  dsimp only at hk hT
  have hln : (((rulesOf xs).take k).map dull).length = k := by simp; omega
  refine w_seq ?_
  refine rg_text ?_
  refine x_bool rfl rfl rfl (v_lss rfl rfl) ?_
  intro b19 hb19
  refine x_end ?_
  refine t_norm ?_
  refine w_seq ?_
  refine w_cond rfl (fun hc19 => ?_) (fun hc19 => ?_)
  · simp only [hb19, decide_eq_true_eq, decide_eq_false_iff_not, Bool.and_eq_true, Bool.or_eq_true, Bool.and_eq_false_iff, Bool.or_eq_false_iff, Bool.not_eq_true', Bool.not_eq_false', ne_eq, Decidable.not_not] at hc19
    have hkl : k < (rulesOf xs).length := by omega
    have hrl := rulesOf_len xs
    obtain ⟨_, _, e0, _, _, q0⟩ := id hr15
    injection e0 with e1 e2 e3
    obtain ⟨b0, o0, hA0, hD0, hb0, hc0⟩ := q0 (by omega)
    obtain ⟨cs0, hcs0, hrd0, hok0⟩ := hc0 k hkl
    subst hrd0
    have hnot : notOwn [(p6, Obj.cells [Value.int .u8 97, .int .u8 109, .slice A13 (made ls).length cp13].toArray 32)] b0 := fun q hq e => by have := hm15.lt hq; omega
    generalize hy : (rulesOf xs)[k] = y at hcs0 hok0
    obtain ⟨css, hcl, hrow, hrd⟩ := hT
    rw [hln] at hrow hcl
    refine w_skip ?_
    refine t_norm ?_
    refine w_seq ?_
    refine w_block ?_
    refine w_seq ?_
    refine rg_text ?_
    refine x_val rfl rfl rfl (v_indexAddr Try.underlying23 sz27 (congrArg (fun A => some (Value.slice A (rulesOf xs).length cp15)) (e1.trans hA0)) rfl (by first | omega | (dsimp only; omega)) rfl) ?_
    refine x_val rfl rfl rfl (v_loadN (vs := [Value.string y.tag, .bool y.must, .bool y.once, .string y.i0, .string y.i1, .string y.codes, .string y.single]) Try.underlying27 rfl sz27 rfl (fun i hi => at_ro (.head _) hnot (hcs0 i hi))) ?_
    refine x_alloc rfl rfl rfl zr27 ?_
    intro p10
    refine x_store0 [] rfl rfl rfl rfl sz27 rfl rfl ?_
    refine x_end ?_
    refine t_norm ?_
    refine w_seq ?_
    refine rg_text ?_
    refine x_val rfl rfl rfl (v_fieldAddr (off' := 2) Try.underlying27 rfl sz4 (by decide) rfl rfl) ?_
    refine x_bool rfl rfl rfl (v_load Try.underlying4 rfl rfl (by first | exact at_ownL (.head _) rfl | exact at_ownL (.tail _ (.head _)) rfl | exact at_ownL (.tail _ (.tail _ (.head _))) rfl | (apply at_ownL; ((repeat (first | exact List.Mem.head _ | apply List.Mem.tail | apply List.mem_append_right))); rfl) | (refine at_ro (by first | exact .head _ | exact .tail _ (.head _) | exact .tail _ (.tail _ (.head _)) | simp) ?_ (by assumption); trivial))) ?_
    intro b23 hb23
    refine x_bool rfl rfl rfl (v_not rfl) ?_
    intro b24 hb24
    refine x_val rfl rfl rfl (v_fieldAddr (off' := 1) Try.underlying27 rfl sz4 (by decide) rfl rfl) ?_
    refine x_store [] rfl rfl rfl rfl sz4 rfl (by show 2 ≤ 7; decide) ?_
    refine x_val rfl rfl rfl (v_fieldAddr (off' := 2) Try.underlying27 rfl sz4 (by decide) rfl rfl) ?_
    refine x_store [] rfl rfl rfl rfl sz4 rfl (by show 3 ≤ 7; decide) ?_
    refine x_val rfl rfl rfl (v_fieldAddr (off' := 5) Try.underlying27 rfl sz9 (by decide) rfl rfl) ?_
    refine x_store [] rfl rfl rfl rfl sz9 rfl (by show 6 ≤ 7; decide) ?_
    refine x_val rfl rfl rfl (v_fieldAddr (off' := 6) Try.underlying27 rfl sz9 (by decide) rfl rfl) ?_
    refine x_store [] rfl rfl rfl rfl sz9 rfl (by show 7 ≤ 7; decide) ?_
    refine x_end ?_
    refine t_norm ?_
    refine rg_text ?_
    refine x_val rfl rfl rfl (v_move rfl) ?_
    refine x_val rfl rfl rfl (v_load_blk Try.underlying27 rfl rfl (by first | exact .head _ | exact .tail _ (.head _) | exact .tail _ (.tail _ (.head _)) | (repeat (first | exact List.Mem.head _ | apply List.Mem.tail | apply List.mem_append_right))) (by exact sz27)) ?_
    have hdu : (dull y).cells = [Value.string y.tag, .bool false, .bool b24, .string y.i0, .string y.i1, .string ⟨#[122]⟩, .string ⟨#[97, 98, 99]⟩] := by rw [hb24, hb23]; rfl
    refine x_buildSliceL (cs := (dull y).cells) rfl rfl rfl Try.underlying23 sz27 zr27 rfl rfl (by rw [hdu]; rfl) ?_
    intro p31
    refine x_append (e := 27) [(p31, Obj.cells (dull y).cells.toArray 27), (p10, _)] (l2 := [(p6, Obj.cells [Value.int .u8 97, .int .u8 109, .slice A13 (made ls).length cp13].toArray 32)]) R (len := k) (xs := css.flatten) rfl rfl rfl rfl rfl hrow Try.underlying23 ap27 rfl rfl (m := 1) (news := (dull y).cells) (fun i hi => at_ownL (vs := (dull y).cells) (.head _) (by rw [Nat.zero_add]; exact List.getElem?_eq_getElem hi)) rfl (by simp only [maxLen]; omega) (by omega) ?_
    intro R' hR'
    refine x_val rfl rfl rfl (v_assign rfl) ?_
    refine x_end ?_
    refine b_norm ?_
    refine t_norm ?_
    refine rg_text ?_
    refine x_val rfl rfl rfl (v_addi rfl rfl rfl (by first | omega | (dsimp only; omega))) ?_
    refine x_val rfl rfl rfl (v_move rfl) ?_
    refine x_end ?_
    have hT' := snocN (T := tyRl) (D := fun _ => False) (ws := w) (x := dull y) hln hcl hrd hR' ⟨rfl, dull_ok hok0⟩
    exact l_norm (k + 1, R') ⟨by dsimp only; omega, by dsimp only; rw [List.take_succ_eq_append_getElem hkl, List.map_append, hy]; exact hT'⟩ (by simp only; omega) (by repeat (first | exact Sub.nil | refine Sub.cons rfl ?_)) (fun _ h => h.less (((List.Sublist.refl _).cons _).cons _) (fun _ h => h))
  · simp only [hb19, decide_eq_true_eq, decide_eq_false_iff_not, Bool.and_eq_true, Bool.or_eq_true, Bool.and_eq_false_iff, Bool.or_eq_false_iff, Bool.not_eq_true', Bool.not_eq_false', ne_eq, Decidable.not_not] at hc19
    obtain rfl : k = (rulesOf xs).length := by omega
    rw [List.take_length] at hT hln
    have hrl := rulesOf_len xs
    refine w_exit ?_
    refine t_exit ?_
    refine t_exit ?_
    refine b_hit ?_
    refine t_norm ?_
    refine w_seq ?_
    refine rg_base 12 (.flt 0 (.flt 1 (.flt 2 (.flt 3 (.flt 6 (.flt 8 (.flt 10 (.gr 4 (.gr 5 (.gr 7 (.gr 9 (.gr 11 .done .nil) .nil) .nil) .nil) (.gr 5 (.gr 4 (.gr 7 (.gr 9 (.gr 11 .done .nil) .nil) .nil) .nil) .nil))))))))) (by kernel_rfl) (by kernel_rfl) (fun w0 hm hm0 => ?_)
    have k13 : sliceRd tyFl (fun _ => True) w0 _ _ := keep_new hrd13 hm (by repeat (first | exact List.Mem.head _ | apply List.Mem.tail)) hm13
    have k15 : sliceRd tyRl (fun _ => True) w0 _ _ := keep_new hr15 hm (by repeat (first | exact List.Mem.head _ | apply List.Mem.tail)) hm15
    have k8 : sliceRd tyRl (fun _ => True) w0 (.slice (rowA R) (rulesOf xs).length (rowC R)) ((rulesOf xs).map dull) := (hT.keep (w' := w0) (D' := fun _ => False) (fun k hk _ => hk.elim)).rd (e := 27) hm (fun p hp => List.mem_append_left _ hp) (fun _ h => h.elim) (fun _ _ => trivial) hln.symm
    refine b_flt (Q := fun _ _ _ => False) hm0 (.head _) ?_
    refine x_val rfl rfl rfl (v_move rfl) ?_
    refine x_end ?_
    refine b_flt (Q := fun _ _ _ => False) hm0 (.head _) ?_
    refine x_val rfl rfl rfl (v_move rfl) ?_
    refine x_end ?_
    refine b_flt (Q := fun _ _ _ => False) hm0 (.head _) ?_
    refine x_if [] rfl rfl rfl rfl rfl (fun hg => by obtain ⟨hg0, _⟩ := hg; (try simp only [List.cons_append, List.nil_append, gvl_nil, gvl_t, gvl_f]); exact v_move rfl) ?_
    refine x_end ?_
    refine b_flt (Q := fun _ _ _ => False) hm0 (.head _) ?_
    refine x_if [] rfl rfl rfl rfl rfl (fun hg => by obtain ⟨hg0, _⟩ := hg; (try simp only [List.cons_append, List.nil_append, gvl_nil, gvl_t, gvl_f]); exact v_loadN (vs := [Value.int .u8 97, .int .u8 109, .slice A13 (made ls).length cp13]) Try.underlying32 rfl sz32 rfl (fun i hi => at_ro (s := (w0, fun _ => True)) (by repeat (first | exact List.Mem.head _ | apply List.Mem.tail)) trivial (by rw [Nat.zero_add]; exact (hm.cell_own (cs := #[Value.int .u8 97, .int .u8 109, .slice A13 (made ls).length cp13]) (t := 32) (fz := (0, 0)) (List.mem_append_right _ (.head _)) i).trans ((List.getElem?_toArray ..).trans (List.getElem?_eq_getElem hi))))) ?_
    refine x_end ?_
    refine b_flt (Q := fun _ _ _ => False) hm0 (.head _) ?_
    refine x_if [] rfl rfl rfl rfl rfl (fun hg => by obtain ⟨hg0, _⟩ := hg; (try simp only [List.cons_append, List.nil_append, gvl_nil, gvl_t, gvl_f]); exact v_move rfl) ?_
    refine x_end ?_
    refine b_flt (Q := fun _ _ _ => False) hm0 (.head _) ?_
    refine x_if [] rfl rfl rfl rfl rfl (fun hg => by obtain ⟨hg0, _⟩ := hg; (try simp only [List.cons_append, List.nil_append, gvl_nil, gvl_t, gvl_f]); exact v_move rfl) ?_
    refine x_end ?_
    refine b_flt (Q := fun _ _ _ => False) hm0 (.head _) ?_
    refine x_if [] rfl rfl rfl rfl rfl (fun hg => by obtain ⟨hg0, _⟩ := hg; (try simp only [List.cons_append, List.nil_append, gvl_nil, gvl_t, gvl_f]); exact v_loadN (vs := [Value.int .u8 97, .int .u8 109, .slice A13 (made ls).length cp13]) Try.underlying32 rfl sz32 rfl (fun i hi => at_ro (s := (w0, fun _ => True)) (by repeat (first | exact List.Mem.head _ | apply List.Mem.tail)) trivial (by rw [Nat.zero_add]; exact (hm.cell_own (cs := #[Value.int .u8 97, .int .u8 109, .slice A13 (made ls).length cp13]) (t := 32) (fz := (0, 0)) (List.mem_append_right _ (.head _)) i).trans ((List.getElem?_toArray ..).trans (List.getElem?_eq_getElem hi))))) ?_
    refine x_end ?_
    refine b_gr ?_ ?_
    · refine x_call_g rfl rfl rfl rfl rfl Try.func18 (by kernel_rfl) rfl (fun w1 hw1 => c18w (rs := rulesOf xs) (fs := made ls) w1 (k15.keep (Kept.later (hw1.base (by repeat (first | exact List.Mem.head _ | apply List.Mem.tail))))) (k13.keep (Kept.later (hw1.base (by repeat (first | exact List.Mem.head _ | apply List.Mem.tail))))) (by have := made_len ls; omega)) ?_
      intro v38 wa38 wb38 hm38 hl38 hr38
      obtain ⟨hrd38, r38, rfl⟩ := hr38
      refine x_end ?_
      refine b_end (by repeat (first | exact List.Mem.head _ | apply List.Mem.tail)) ?_
      refine b_gr ?_ b_nil
      refine x_buildSlice0_g rfl rfl rfl rfl rfl Try.underlying23 sz27 ?_
      intro p39
      refine x_end ?_
      refine b_end (by repeat (first | exact List.Mem.head _ | apply List.Mem.tail)) ?_
      refine b_gr ?_ b_nil
      obtain ⟨cssA, hclA, hmeA, hflA, hrdA, hnoA, hatA, hposA⟩ := k15.cells
      obtain ⟨hcfA, hokA⟩ := tyRl_cells hclA hrdA
      rw [hcfA] at hflA hatA
      refine x_append_any_g (e := 27) (news := (rulesOf xs).flatMap Rl.cells) [] (l2 := []) (some (p39, [], 0)) (len := 0) (xs := []) rfl rfl rfl rfl rfl rfl rfl ⟨rfl, Nat.le_refl _, Nat.zero_le _, rfl, rfl⟩ Try.underlying23 ap27 rfl hflA hnoA (fun w1 hw1 a ha j u hu => (hw1.cell_ro (s := (w0, fun _ => True)) (by repeat (first | exact List.Mem.head _ | apply List.Mem.tail)) trivial (cell_lt (hatA a ha j u hu))).trans (hatA a ha j u hu)) (rlC_one _) (by simp only [maxLen]; omega) (by omega) ?_
      intro R1 hR1
      replace hR1 : rowOK 7 R1 (rulesOf xs).length ((rulesOf xs).flatMap Rl.cells) := by simpa using hR1
      rw [show 0 + (rulesOf xs).length = (rulesOf xs).length from Nat.zero_add _]
      refine x_end ?_
      refine b_end (by repeat (first | exact List.Mem.head _ | apply List.Mem.tail)) ?_
      refine b_gr ?_ b_nil
      obtain ⟨cssB, hclB, hmeB, hflB, hrdB, hnoB, hatB, hposB⟩ := k8.cells
      obtain ⟨hcfB, hokB⟩ := tyRl_cells hclB hrdB
      rw [hcfB] at hflB hatB
      refine x_append_any_g (e := 27) (news := ((rulesOf xs).map dull).flatMap Rl.cells) [] (l2 := []) R1 (len := (rulesOf xs).length) (xs := (rulesOf xs).flatMap Rl.cells) rfl rfl rfl rfl rfl rfl rfl hR1 Try.underlying23 ap27 rfl hflB hnoB (fun w1 hw1 a ha j u hu => (hw1.cell_ro (s := (w0, fun _ => True)) (by repeat (first | exact List.Mem.head _ | apply List.Mem.tail)) trivial (cell_lt (hatB a ha j u hu))).trans (hatB a ha j u hu)) (rlC_one _) (by simp only [maxLen]; omega) (by omega) ?_
      intro R2 hR2
      refine x_end ?_
      refine b_end (by repeat (first | exact List.Mem.head _ | apply List.Mem.tail)) ?_
      refine b_gr ?_ b_nil
      refine x_call_g rfl rfl rfl rfl rfl Try.func18 (by kernel_rfl) rfl (fun w1 hw1 => c18w (rs := rulesOf xs ++ ((rulesOf xs).map dull)) (fs := made ls) w1 (own_row_rd (T := tyRl) (f := Rl.cells) (ps := rulesOf xs ++ ((rulesOf xs).map dull)) hw1 (fun p hp => by simpa using hp) (by rw [List.flatMap_append]; exact hR2) (by simp) (fun _ => rfl) (fun x hx => ⟨rfl, by rcases List.mem_append.1 hx with h | h; (· exact hokA x h); exact hokB x h⟩)) (k13.keep (Kept.later (hw1.base (by repeat (first | exact List.Mem.head _ | apply List.Mem.tail))))) (by have := made_len ls; simp; omega)) ?_
      intro v45 wa45 wb45 hm45 hl45 hr45
      obtain ⟨hrd45, r45, rfl⟩ := hr45
      refine x_end ?_
      refine b_end (by repeat (first | exact List.Mem.head _ | apply List.Mem.tail)) ?_
      refine b_done ?_
      refine x_call_ifb [] rfl rfl rfl rfl rfl Try.func17 (by kernel_rfl) (fun hg => by obtain ⟨hg0, _⟩ := hg; (try simp only [List.cons_append, List.nil_append, gvl_nil, gvl_t, gvl_f]); refine ⟨_, rfl, ?_⟩; exact fun w1 hw1 => c17 w1 (keep_new hrd38 hw1 (by repeat (first | exact List.Mem.head _ | apply List.Mem.tail)) hm38) (keep_new hrd45 hw1 (by repeat (first | exact List.Mem.head _ | apply List.Mem.tail)) hm45)) ?_
      intro b46 hb46
      obtain rfl : b46 = true := by rw [hb46, chk_dull]; simp
      refine x_bool rfl rfl rfl (v_and rfl rfl) ?_
      intro b47 hb47
      obtain rfl : b47 = true := by rw [hb47]; rfl
      refine x_val rfl rfl rfl (v_assign rfl) ?_
      refine x_end ?_
      refine t_norm ?_
      refine w_ret ?_
      refine ret1 rfl rfl (fun w' hm => ⟨?_, hm.base (by simp)⟩)
      rfl
    refine b_gr ?_ b_nil
    refine x_buildSlice0_g rfl rfl rfl rfl rfl Try.underlying23 sz27 ?_
    intro p39
    refine x_end ?_
    refine b_end (by repeat (first | exact List.Mem.head _ | apply List.Mem.tail)) ?_
    refine b_gr ?_ b_nil
    refine x_call_g rfl rfl rfl rfl rfl Try.func18 (by kernel_rfl) rfl (fun w1 hw1 => c18w (rs := rulesOf xs) (fs := made ls) w1 (k15.keep (Kept.later (hw1.base (by repeat (first | exact List.Mem.head _ | apply List.Mem.tail))))) (k13.keep (Kept.later (hw1.base (by repeat (first | exact List.Mem.head _ | apply List.Mem.tail))))) (by have := made_len ls; omega)) ?_
    intro v38 wa38 wb38 hm38 hl38 hr38
    obtain ⟨hrd38, r38, rfl⟩ := hr38
    refine x_end ?_
    refine b_end (by repeat (first | exact List.Mem.head _ | apply List.Mem.tail)) ?_
    refine b_gr ?_ b_nil
    obtain ⟨cssA, hclA, hmeA, hflA, hrdA, hnoA, hatA, hposA⟩ := k15.cells
    obtain ⟨hcfA, hokA⟩ := tyRl_cells hclA hrdA
    rw [hcfA] at hflA hatA
    refine x_append_any_g (e := 27) (news := (rulesOf xs).flatMap Rl.cells) [] (l2 := []) (some (p39, [], 0)) (len := 0) (xs := []) rfl rfl rfl rfl rfl rfl rfl ⟨rfl, Nat.le_refl _, Nat.zero_le _, rfl, rfl⟩ Try.underlying23 ap27 rfl hflA hnoA (fun w1 hw1 a ha j u hu => (hw1.cell_ro (s := (w0, fun _ => True)) (by repeat (first | exact List.Mem.head _ | apply List.Mem.tail)) trivial (cell_lt (hatA a ha j u hu))).trans (hatA a ha j u hu)) (rlC_one _) (by simp only [maxLen]; omega) (by omega) ?_
    intro R1 hR1
    replace hR1 : rowOK 7 R1 (rulesOf xs).length ((rulesOf xs).flatMap Rl.cells) := by simpa using hR1
    rw [show 0 + (rulesOf xs).length = (rulesOf xs).length from Nat.zero_add _]
    refine x_end ?_
    refine b_end (by repeat (first | exact List.Mem.head _ | apply List.Mem.tail)) ?_
    refine b_gr ?_ b_nil
    obtain ⟨cssB, hclB, hmeB, hflB, hrdB, hnoB, hatB, hposB⟩ := k8.cells
    obtain ⟨hcfB, hokB⟩ := tyRl_cells hclB hrdB
    rw [hcfB] at hflB hatB
    refine x_append_any_g (e := 27) (news := ((rulesOf xs).map dull).flatMap Rl.cells) [] (l2 := []) R1 (len := (rulesOf xs).length) (xs := (rulesOf xs).flatMap Rl.cells) rfl rfl rfl rfl rfl rfl rfl hR1 Try.underlying23 ap27 rfl hflB hnoB (fun w1 hw1 a ha j u hu => (hw1.cell_ro (s := (w0, fun _ => True)) (by repeat (first | exact List.Mem.head _ | apply List.Mem.tail)) trivial (cell_lt (hatB a ha j u hu))).trans (hatB a ha j u hu)) (rlC_one _) (by simp only [maxLen]; omega) (by omega) ?_
    intro R2 hR2
    refine x_end ?_
    refine b_end (by repeat (first | exact List.Mem.head _ | apply List.Mem.tail)) ?_
    refine b_gr ?_ b_nil
    refine x_call_g rfl rfl rfl rfl rfl Try.func18 (by kernel_rfl) rfl (fun w1 hw1 => c18w (rs := rulesOf xs ++ ((rulesOf xs).map dull)) (fs := made ls) w1 (own_row_rd (T := tyRl) (f := Rl.cells) (ps := rulesOf xs ++ ((rulesOf xs).map dull)) hw1 (fun p hp => by simpa using hp) (by rw [List.flatMap_append]; exact hR2) (by simp) (fun _ => rfl) (fun x hx => ⟨rfl, by rcases List.mem_append.1 hx with h | h; (· exact hokA x h); exact hokB x h⟩)) (k13.keep (Kept.later (hw1.base (by repeat (first | exact List.Mem.head _ | apply List.Mem.tail))))) (by have := made_len ls; simp; omega)) ?_
    intro v45 wa45 wb45 hm45 hl45 hr45
    obtain ⟨hrd45, r45, rfl⟩ := hr45
    refine x_end ?_
    refine b_end (by repeat (first | exact List.Mem.head _ | apply List.Mem.tail)) ?_
    refine b_done ?_
    refine x_call_ifb [] rfl rfl rfl rfl rfl Try.func17 (by kernel_rfl) (fun hg => by obtain ⟨hg0, _⟩ := hg; (try simp only [List.cons_append, List.nil_append, gvl_nil, gvl_t, gvl_f]); refine ⟨_, rfl, ?_⟩; exact fun w1 hw1 => c17 w1 (keep_new hrd38 hw1 (by repeat (first | exact List.Mem.head _ | apply List.Mem.tail)) hm38) (keep_new hrd45 hw1 (by repeat (first | exact List.Mem.head _ | apply List.Mem.tail)) hm45)) ?_
    intro b46 hb46
    obtain rfl : b46 = true := by rw [hb46, chk_dull]; simp
    refine x_bool rfl rfl rfl (v_and rfl rfl) ?_
    intro b47 hb47
    obtain rfl : b47 = true := by rw [hb47]; rfl
    refine x_val rfl rfl rfl (v_assign rfl) ?_
    refine x_end ?_
    refine t_norm ?_
    refine w_ret ?_
    refine ret1 rfl rfl (fun w' hm => ⟨?_, hm.base (by simp)⟩)
    rfl

end Go.Proofs.Ytmihkbciilloaaa
