import Derived.Test.YtmihkbciilloaaaWv
namespace Go.Proofs.Ytmihkbciilloaaa
open Go.RowKit Go.PK
set_option linter.unusedVariables false
set_option linter.unusedSimpArgs false
set_option maxRecDepth 100000 in
theorem c21 (s0 s1 s2 s3 : ByteArray) (w : World) (h3 : okS s3) :
    Calls Try.prog 21 #[.agg #[.string s0, .string s1, .string s2, .string s3]] w fun e w' => ∃ v, e = .returned v ∧ Later w w' ∧ ∃ v' sb, v = .agg #[.string s0, .string s1, .string s2, v'] ∧ sliceRd tySb (fun b => w.heap.size ≤ b) w' v' sb ∧ sb.length ≤ 20 := by
  refine enter (vs := [.agg #[.string s0, .string s1, .string s2, .string s3]]) Try.func21 rfl Try.ntmps21 rfl ?_
  refine w_seq ?_
  refine rg_text ?_
  refine x_box rfl rfl rfl rfl ?_
  intro p1
  refine x_alloc rfl rfl rfl zr46 ?_
  intro p2
  refine x_end ?_
  refine t_norm ?_
  refine w_seq ?_
  refine rg_text ?_
  refine x_val rfl rfl rfl (v_indexArr (j := 0) (off' := 0) Try.underlying43 sz9 rfl rfl (by first | omega | (dsimp only; omega)) rfl) ?_
  refine x_val rfl rfl rfl (v_load Try.underlying9 rfl rfl (by first | exact at_ownL (.head _) rfl | exact at_ownL (.tail _ (.head _)) rfl | exact at_ownL (.tail _ (.tail _ (.head _))) rfl | (apply at_ownL; ((repeat (first | exact List.Mem.head _ | apply List.Mem.tail | apply List.mem_append_right))); rfl) | (refine at_ro (by first | exact .head _ | exact .tail _ (.head _) | exact .tail _ (.tail _ (.head _)) | simp) ?_ (by assumption); trivial))) ?_
  refine x_val rfl rfl rfl (v_indexArr (j := 1) (off' := 1) Try.underlying43 sz9 rfl rfl (by first | omega | (dsimp only; omega)) rfl) ?_
  refine x_val rfl rfl rfl (v_load Try.underlying9 rfl rfl (by first | exact at_ownL (.head _) rfl | exact at_ownL (.tail _ (.head _)) rfl | exact at_ownL (.tail _ (.tail _ (.head _))) rfl | (apply at_ownL; ((repeat (first | exact List.Mem.head _ | apply List.Mem.tail | apply List.mem_append_right))); rfl) | (refine at_ro (by first | exact .head _ | exact .tail _ (.head _) | exact .tail _ (.tail _ (.head _)) | simp) ?_ (by assumption); trivial))) ?_
  refine x_val rfl rfl rfl (v_indexArr (j := 2) (off' := 2) Try.underlying43 sz9 rfl rfl (by first | omega | (dsimp only; omega)) rfl) ?_
  refine x_val rfl rfl rfl (v_load Try.underlying9 rfl rfl (by first | exact at_ownL (.head _) rfl | exact at_ownL (.tail _ (.head _)) rfl | exact at_ownL (.tail _ (.tail _ (.head _))) rfl | (apply at_ownL; ((repeat (first | exact List.Mem.head _ | apply List.Mem.tail | apply List.mem_append_right))); rfl) | (refine at_ro (by first | exact .head _ | exact .tail _ (.head _) | exact .tail _ (.tail _ (.head _)) | simp) ?_ (by assumption); trivial))) ?_
  refine x_val rfl rfl rfl (v_buildL (places := [(0, 1), (1, 1), (2, 1), (3, 1)]) Try.underlying46 zr46 (by kernel_rfl) rfl rfl) ?_
  refine x_alloc rfl rfl rfl zr46 ?_
  intro p3
  refine x_store0 [] rfl rfl rfl rfl sz46 rfl rfl ?_
  refine x_end ?_
  refine t_norm ?_
  refine w_seq ?_
  refine w_seq ?_
  refine rg_text ?_
  refine x_val rfl rfl rfl (v_assign rfl) ?_
  refine x_end ?_
  refine t_norm ?_
  refine w_block ?_
  refine w_loop (σ := Nat × RowS × List Sb) (fun x => x.1 ≤ s3.size ∧ x.1 ≤ 20 ∧ x.2.2.length = x.1 ∧ RowT tySb (fun _ => False) w x.2.1 x.2.2) (fun x => [(1, .pointer (some ⟨p1, 0, none⟩)), (2, .pointer (some ⟨p2, 0, none⟩)), (3, .pointer (some ⟨p3, 0, none⟩)), (4, Value.int .i64 (x.1 : Nat))]) (fun x => (p3, Obj.cells [Value.string s0, .string s1, .string s2, rowV (x.2.1) (x.1)].toArray 46) :: (rowO 48 x.2.1 ++ [(p2, Obj.cells [Value.string ⟨#[]⟩, .string ⟨#[]⟩, .string ⟨#[]⟩, .slice none 0 0].toArray 46), (p1, Obj.cells [Value.string s0, .string s1, .string s2, .string s3].toArray 43)])) (fun x => [(w, fun _ => True)]) (fun x => 20 - x.1) ((0, none, [])) (⟨Nat.zero_le _, Nat.zero_le _, rfl, RowT.nil⟩) (l_start (by repeat (first | exact Sub.nil | refine Sub.cons rfl ?_)) (fun _ h => h)) ?_
  rintro ⟨k, R, sb⟩ ⟨hk, hk20, hln, hT⟩
  refine w_state ([(1, .pointer (some ⟨p1, 0, none⟩)), (2, .pointer (some ⟨p2, 0, none⟩)), (3, .pointer (some ⟨p3, 0, none⟩)), (4, Value.int .i64 (k : Nat))]) ((p3, Obj.cells [Value.string s0, .string s1, .string s2, rowV (R) (k)].toArray 46) :: (rowO 48 R ++ [(p2, Obj.cells [Value.string ⟨#[]⟩, .string ⟨#[]⟩, .string ⟨#[]⟩, .slice none 0 0].toArray 46), (p1, Obj.cells [Value.string s0, .string s1, .string s2, .string s3].toArray 43)])) ([(w, fun _ => True)]) ?_
  dsimp only at hk hk20 hT hln
  refine w_seq ?_
  refine w_seq ?_
  refine rg_text ?_
  refine x_val rfl rfl rfl (v_move rfl) ?_
  refine x_val rfl rfl rfl (v_indexArr (j := 3) (off' := 3) Try.underlying43 sz9 rfl rfl (by first | omega | (dsimp only; omega)) rfl) ?_
  refine x_val rfl rfl rfl (v_load Try.underlying9 rfl rfl (by first | exact at_ownL (.head _) rfl | exact at_ownL (.tail _ (.head _)) rfl | exact at_ownL (.tail _ (.tail _ (.head _))) rfl | (apply at_ownL; ((repeat (first | exact List.Mem.head _ | apply List.Mem.tail | apply List.mem_append_right))); rfl) | (refine at_ro (by first | exact .head _ | exact .tail _ (.head _) | exact .tail _ (.tail _ (.head _)) | simp) ?_ (by assumption); trivial))) ?_
  refine x_val rfl rfl rfl (v_len_str Try.underlying9 rfl) ?_
  refine x_bool rfl rfl rfl (v_lss rfl rfl) ?_
  intro b16 hb16
  refine x_val rfl rfl rfl (v_move rfl) ?_
  refine x_if [] rfl rfl rfl rfl rfl (fun hg => by obtain ⟨hg0, _⟩ := hg; subst hg0; (try simp only [List.cons_append, List.nil_append, gvl_nil, gvl_t, gvl_f]); exact v_move rfl) ?_
  refine x_ifb [] rfl rfl rfl rfl rfl (fun hg => by obtain ⟨hg0, _⟩ := hg; subst hg0; (try simp only [List.cons_append, List.nil_append, gvl_nil, gvl_t, gvl_f]); exact v_lss rfl rfl) ?_
  intro b19 hb19
  refine x_bool rfl rfl rfl (v_and rfl rfl) ?_
  intro b20 hb20
  refine x_end ?_
  refine t_norm ?_
  refine w_cond rfl (fun hc20 => ?_) (fun hc20 => ?_)
  · simp only [hb20, hb19, hb16, decide_eq_true_eq, decide_eq_false_iff_not, Bool.and_eq_true, Bool.or_eq_true, Bool.and_eq_false_iff, Bool.or_eq_false_iff, Bool.not_eq_true', Bool.not_eq_false', ne_eq, Decidable.not_not] at hc20
    have hkl : k < s3.size := by omega
    obtain ⟨css, hcl, hrow, hrd⟩ := hT
    rw [hln] at hrow hcl
    refine w_skip ?_
    refine t_norm ?_
    refine w_seq ?_
    refine w_block ?_
    refine rg_draw 8 [(true, 0), (true, 1), (true, 2), (true, 3), (true, 4), (true, 5), (true, 6), (false, 7)] (by kernel_rfl) (by kernel_rfl) ?_
    refine x_val rfl rfl rfl (v_fieldAddr (off' := 3) Try.underlying46 rfl sz44 (by decide) rfl rfl) ?_
    refine x_val rfl rfl rfl (v_load Try.underlying44 rfl rfl (by first | exact at_ownL (.head _) rfl | exact at_ownL (.tail _ (.head _)) rfl | exact at_ownL (.tail _ (.tail _ (.head _))) rfl | (apply at_ownL; ((repeat (first | exact List.Mem.head _ | apply List.Mem.tail | apply List.mem_append_right))); rfl) | (refine at_ro (by first | exact .head _ | exact .tail _ (.head _) | exact .tail _ (.tail _ (.head _)) | simp) ?_ (by assumption); trivial))) ?_
    refine x_val rfl rfl rfl (v_indexArr (j := 3) (off' := 3) Try.underlying43 sz9 rfl rfl (by first | omega | (dsimp only; omega)) rfl) ?_
    refine x_val rfl rfl rfl (v_load Try.underlying9 rfl rfl (by first | exact at_ownL (.head _) rfl | exact at_ownL (.tail _ (.head _)) rfl | exact at_ownL (.tail _ (.tail _ (.head _))) rfl | (apply at_ownL; ((repeat (first | exact List.Mem.head _ | apply List.Mem.tail | apply List.mem_append_right))); rfl) | (refine at_ro (by first | exact .head _ | exact .tail _ (.head _) | exact .tail _ (.tail _ (.head _)) | simp) ?_ (by assumption); trivial))) ?_
    refine x_val rfl rfl rfl (v_move rfl) ?_
    refine x_val rfl rfl rfl (v_index Try.underlying9 rfl rfl (by first | omega | (dsimp only; omega))) ?_
    refine x_val rfl rfl rfl (v_buildL (places := [(0, 1), (1, 1)]) Try.underlying48 zr48 (by kernel_rfl) rfl rfl) ?_
    refine x_buildSliceL (cs := sbC ⟨byteAt s3 k, ⟨#[]⟩⟩) rfl rfl rfl Try.underlying44 sz48 zr48 rfl rfl rfl ?_
    intro p30
    refine x_append (e := 48) [(p30, Obj.cells (sbC ⟨byteAt s3 k, ⟨#[]⟩⟩).toArray 48), (p3, Obj.cells [Value.string s0, .string s1, .string s2, rowV (R) (k)].toArray 46)] (l2 := [(p2, Obj.cells [Value.string ⟨#[]⟩, .string ⟨#[]⟩, .string ⟨#[]⟩, .slice none 0 0].toArray 46), (p1, Obj.cells [Value.string s0, .string s1, .string s2, .string s3].toArray 43)]) R (len := k) (xs := css.flatten) rfl rfl rfl rfl rfl hrow Try.underlying44 ap48 rfl rfl (m := 1) (news := sbC ⟨byteAt s3 k, ⟨#[]⟩⟩) (fun i hi => at_ownL (vs := sbC ⟨byteAt s3 k, ⟨#[]⟩⟩) (.head _) (by rw [Nat.zero_add]; exact List.getElem?_eq_getElem hi)) rfl (by simp only [maxLen]; omega) (by omega) ?_
    intro R' hR'
    refine x_val rfl rfl rfl (v_fieldAddr (off' := 3) Try.underlying46 rfl sz44 (by decide) rfl rfl) ?_
    refine x_store [(p30, _)] rfl rfl rfl rfl sz44 rfl (by show 4 ≤ 4; decide) ?_
    refine x_end ?_
    refine b_norm ?_
    refine t_norm ?_
    refine rg_text ?_
    refine x_val rfl rfl rfl (v_move rfl) ?_
    refine x_val rfl rfl rfl (v_addi rfl rfl rfl (by first | omega | (dsimp only; omega))) ?_
    refine x_val rfl rfl rfl (v_assign rfl) ?_
    refine x_end ?_
    have hT' := snocN (T := tySb) (D := fun _ => False) (ws := w) (x := ⟨byteAt s3 k, ⟨#[]⟩⟩) hln hcl hrd hR' ⟨rfl, (by decide : (0 : Nat) ≤ 9223372036854775807)⟩
    exact l_norm (k + 1, R', sb ++ [⟨byteAt s3 k, ⟨#[]⟩⟩]) ⟨by dsimp only; omega, by dsimp only; omega, by dsimp only; simp [hln], hT'⟩ (by simp only; omega) (by repeat (first | exact Sub.nil | refine Sub.cons rfl ?_)) (fun _ h => h.less (List.sublist_cons_self _ _) (fun _ h => h))
  · simp only [hb20, hb19, hb16, decide_eq_true_eq, decide_eq_false_iff_not, Bool.and_eq_true, Bool.or_eq_true, Bool.and_eq_false_iff, Bool.or_eq_false_iff, Bool.not_eq_true', Bool.not_eq_false', ne_eq, Decidable.not_not] at hc20
    refine w_exit ?_
    refine t_exit ?_
    refine t_exit ?_
    refine b_hit ?_
    refine t_norm ?_
    refine w_seq ?_
    refine rg_text ?_
    refine x_val rfl rfl rfl (v_load_blk (e := 46) (fz := (0, 0)) (cs := [Value.string s0, .string s1, .string s2, rowV R k].toArray) Try.underlying46 rfl rfl (.head _) (by exact sz46)) ?_
    refine x_store0 ((p3, Obj.cells [Value.string s0, .string s1, .string s2, rowV (R) (k)].toArray 46) :: rowO 48 R) rfl rfl rfl rfl sz46 rfl rfl ?_
    refine x_end ?_
    refine t_norm ?_
    refine w_ret ?_
    refine retc rfl rfl (List.mem_cons_of_mem _ (List.mem_append_right _ (.head _))) Try.underlying46 rfl sz46 (fun w' hm => ⟨_, rfl, hm.base (by simp), _, sb, rfl, ?_, by omega⟩)
    exact (hT.keep (w' := w') (D' := fun _ => False) (fun k hk _ => hk.elim)).rd (e := 48) hm (fun p hp => List.mem_cons_of_mem _ (List.mem_append_left _ hp)) (fun _ h => h.elim) (fun p hp => hm.newer (by simp) (List.mem_cons_of_mem _ (List.mem_append_left _ hp))) hln.symm

end Go.Proofs.Ytmihkbciilloaaa
