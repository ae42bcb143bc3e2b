import Derived.Test.YtmihkbciilloaaaWp
namespace Go.Proofs.Ytmihkbciilloaaa
open Go.RowKit Go.PK
set_option linter.unusedVariables false
set_option linter.unusedSimpArgs false

theorem ap46 : (Try.prog.info? 46).map (fun j => (j.zero, j.size, j.bytes)) = some (some (.agg #[.string ⟨#[]⟩, .string ⟨#[]⟩, .string ⟨#[]⟩, .slice none 0 0]), 4, 72) := by kernel_rfl
set_option maxRecDepth 100000 in
theorem c15 {v : Value} {xs : List I4} {D : Nat → Prop} (w : World) (hxs : sliceRd tyI4 D w v xs) :
    Calls Try.prog 15 #[v] w fun e w' => ∃ v, e = .returned (.agg #[.int .u8 97, .int .u8 109, v]) ∧ Later w w' ∧ sliceRd tyFl (fun b => w.heap.size ≤ b) w' v (made xs) := by
  obtain ⟨A, c, rfl, hlc, hmx, hA⟩ := hxs
  refine enter (vs := [.slice A xs.length c]) Try.func15 rfl Try.ntmps15 rfl ?_
  refine w_seq ?_
  refine rg_text ?_
  refine x_alloc rfl rfl rfl zr32 ?_
  intro p2
  refine x_end ?_
  refine t_norm ?_
  refine w_seq ?_
  refine rg_text ?_
  refine x_val rfl rfl rfl (v_buildL (places := [(0, 1), (1, 1), (2, 1)]) Try.underlying32 zr32 (by kernel_rfl) rfl rfl) ?_
  refine x_alloc rfl rfl rfl zr32 ?_
  intro p3
  refine x_store0 [] rfl rfl rfl rfl sz32 rfl rfl ?_
  refine x_end ?_
  refine t_norm ?_
  refine w_seq ?_
  refine w_seq ?_
  refine rg_text ?_
  refine x_val rfl rfl rfl (v_assign rfl) ?_
  refine x_end ?_
  refine t_norm ?_
  refine w_block ?_
  refine w_loop (σ := Nat × RowS × World) (fun x => x.1 ≤ xs.length ∧ x.1 ≤ 20 ∧ RowT tyFl (newD w ((p3, Obj.cells [Value.int .u8 97, .int .u8 109, rowV (x.2.1) (x.1)].toArray 32) :: (rowO 46 (x.2.1) ++ [(p2, Obj.cells [Value.int .u8 0, .int .u8 0, .slice none 0 0].toArray 32)]))) x.2.2 x.2.1 ((xs.take x.1).map madeF)) (fun x => [(0, .slice A xs.length c), (2, .pointer (some ⟨p2, 0, none⟩)), (3, .pointer (some ⟨p3, 0, none⟩)), (4, Value.int .i64 (x.1 : Nat))]) (fun x => (p3, Obj.cells [Value.int .u8 97, .int .u8 109, rowV (x.2.1) (x.1)].toArray 32) :: (rowO 46 (x.2.1) ++ [(p2, Obj.cells [Value.int .u8 0, .int .u8 0, .slice none 0 0].toArray 32)])) (fun x => [(x.2.2, notOwn ((p3, Obj.cells [Value.int .u8 97, .int .u8 109, rowV (x.2.1) (x.1)].toArray 32) :: (rowO 46 (x.2.1) ++ [(p2, Obj.cells [Value.int .u8 0, .int .u8 0, .slice none 0 0].toArray 32)]))), (w, fun _ => True)]) (fun x => 20 - x.1) ((0, none, w)) (⟨Nat.zero_le _, Nat.zero_le _, RowT.nil⟩) (l_start (by repeat (first | exact Sub.nil | refine Sub.cons rfl ?_)) (fun w1 h => h.snap0 (by simp))) ?_
  rintro ⟨k, R, ws⟩ ⟨hk, hk20, hT⟩
  refine w_state ([(0, .slice A xs.length c), (2, .pointer (some ⟨p2, 0, none⟩)), (3, .pointer (some ⟨p3, 0, none⟩)), (4, Value.int .i64 (k : Nat))]) ((p3, Obj.cells [Value.int .u8 97, .int .u8 109, rowV (R) (k)].toArray 32) :: (rowO 46 (R) ++ [(p2, Obj.cells [Value.int .u8 0, .int .u8 0, .slice none 0 0].toArray 32)])) ([(ws, notOwn ((p3, Obj.cells [Value.int .u8 97, .int .u8 109, rowV (R) (k)].toArray 32) :: (rowO 46 (R) ++ [(p2, Obj.cells [Value.int .u8 0, .int .u8 0, .slice none 0 0].toArray 32)]))), (w, fun _ => True)]) ?_
  dsimp only at hk hk20 hT
  have hln : ((xs.take k).map madeF).length = k := by simp; omega
  refine w_seq ?_
  refine w_seq ?_
  refine rg_text ?_
  refine x_val rfl rfl rfl (v_move rfl) ?_
  refine x_val rfl rfl rfl (v_move rfl) ?_
  refine x_val rfl rfl rfl (v_len_slice Try.underlying28 rfl) ?_
  refine x_bool rfl rfl rfl (v_lss rfl rfl) ?_
  intro b13 hb13
  refine x_val rfl rfl rfl (v_move rfl) ?_
  refine x_if [] rfl rfl rfl rfl rfl (fun hg => by obtain ⟨hg0, _⟩ := hg; subst hg0; (try simp only [List.cons_append, List.nil_append, gvl_nil, gvl_t, gvl_f]); exact v_move rfl) ?_
  refine x_ifb [] rfl rfl rfl rfl rfl (fun hg => by obtain ⟨hg0, _⟩ := hg; subst hg0; (try simp only [List.cons_append, List.nil_append, gvl_nil, gvl_t, gvl_f]); exact v_lss rfl rfl) ?_
  intro b16 hb16
  refine x_bool rfl rfl rfl (v_and rfl rfl) ?_
  intro b17 hb17
  refine x_end ?_
  refine t_norm ?_
  refine w_cond rfl (fun hc17 => ?_) (fun hc17 => ?_)
  · simp only [hb17, hb16, hb13, decide_eq_true_eq, decide_eq_false_iff_not, Bool.and_eq_true, Bool.or_eq_true, Bool.and_eq_false_iff, Bool.or_eq_false_iff, Bool.not_eq_true', Bool.not_eq_false', ne_eq, Decidable.not_not] at hc17
    have hkl : k < xs.length := by omega
    obtain ⟨b0, o0, hv0, hD0, hb0, hcell0⟩ := hA (by omega)
    obtain ⟨cs0, hcs0, hrd0, hok0⟩ := hcell0 k hkl
    subst hrd0
    obtain ⟨css, hcl, hrow, hrd⟩ := hT
    rw [hln] at hrow hcl
    refine w_skip ?_
    refine t_norm ?_
    refine w_seq ?_
    refine w_block ?_
    refine w_seq ?_
    refine rg_text ?_
    refine x_val rfl rfl rfl (v_move rfl) ?_
    refine x_val rfl rfl rfl (v_move rfl) ?_
    refine x_val rfl rfl rfl (v_indexAddr Try.underlying28 sz66 (congrArg (fun A => some (Value.slice A xs.length c)) hv0) rfl (by first | omega | (dsimp only; omega)) rfl) ?_
    refine x_val rfl rfl rfl (v_loadN (vs := [Value.int .i64 xs[k].a, .int .i64 xs[k].b, .int .i64 xs[k].c, .int .i64 xs[k].d]) Try.underlying66 rfl sz66 rfl (fun i hi => at_ro (.tail _ (.head _)) trivial (hcs0 i hi))) ?_
    refine x_alloc rfl rfl rfl zr66 ?_
    intro p5
    refine x_store0 [] rfl rfl rfl rfl sz66 rfl rfl ?_
    refine x_end ?_
    refine t_norm ?_
    refine w_seq ?_
    refine rg_text ?_
    refine x_val rfl rfl rfl (v_indexArr (j := 0) (off' := 0) Try.underlying66 sz3 rfl rfl (by first | omega | (dsimp only; omega)) rfl) ?_
    refine x_val rfl rfl rfl (v_load Try.underlying3 rfl rfl (by first | exact at_ownL (.head _) rfl | exact at_ownL (.tail _ (.head _)) rfl | exact at_ownL (.tail _ (.tail _ (.head _))) rfl | (apply at_ownL; ((repeat (first | exact List.Mem.head _ | apply List.Mem.tail | apply List.mem_append_right))); rfl) | (refine at_ro (by first | exact .head _ | exact .tail _ (.head _) | exact .tail _ (.tail _ (.head _)) | simp) ?_ (by assumption); trivial))) ?_
    refine x_callv rfl rfl rfl Try.func29 (by kernel_rfl) rfl (fun w1 hw1 => c29 _ w1 hok0.1) ?_
    refine x_val rfl rfl rfl (v_buildL (places := [(0, 1), (1, 1), (2, 1), (3, 1)]) Try.underlying46 zr46 (by kernel_rfl) rfl rfl) ?_
    refine x_alloc rfl rfl rfl zr46 ?_
    intro p6
    refine x_store0 [] rfl rfl rfl rfl sz46 rfl rfl ?_
    refine x_end ?_
    refine t_norm ?_
    refine w_seq ?_
    refine w_seq ?_
    refine rg_text ?_
    refine x_val rfl rfl rfl (v_fieldAddr (off' := 0) Try.underlying46 rfl sz9 (by decide) rfl rfl) ?_
    refine x_val rfl rfl rfl (v_load Try.underlying9 rfl rfl (by first | exact at_ownL (.head _) rfl | exact at_ownL (.tail _ (.head _)) rfl | exact at_ownL (.tail _ (.tail _ (.head _))) rfl | (apply at_ownL; ((repeat (first | exact List.Mem.head _ | apply List.Mem.tail | apply List.mem_append_right))); rfl) | (refine at_ro (by first | exact .head _ | exact .tail _ (.head _) | exact .tail _ (.tail _ (.head _)) | simp) ?_ (by assumption); trivial))) ?_
    refine x_val rfl rfl rfl (v_len_str Try.underlying9 rfl) ?_
    refine x_bool rfl rfl rfl (v_gtr rfl rfl) ?_
    intro b31 hb31
    refine x_val rfl rfl rfl (v_move rfl) ?_
    refine x_if [] rfl rfl rfl rfl rfl (fun hg => by obtain ⟨hg0, _⟩ := hg; subst hg0; (try simp only [List.cons_append, List.nil_append, gvl_nil, gvl_t, gvl_f]); exact v_fieldAddr (off' := 0) Try.underlying46 rfl sz9 (by decide) rfl rfl) ?_
    refine x_if [] rfl rfl rfl rfl rfl (fun hg => by obtain ⟨hg0, _⟩ := hg; subst hg0; (try simp only [List.cons_append, List.nil_append, gvl_nil, gvl_t, gvl_f]); exact v_load Try.underlying9 rfl rfl (by first | exact at_ownL (.head _) rfl | exact at_ownL (.tail _ (.head _)) rfl | exact at_ownL (.tail _ (.tail _ (.head _))) rfl | (apply at_ownL; ((repeat (first | exact List.Mem.head _ | apply List.Mem.tail | apply List.mem_append_right))); rfl) | (refine at_ro (by first | exact .head _ | exact .tail _ (.head _) | exact .tail _ (.tail _ (.head _)) | simp) ?_ (by assumption); trivial))) ?_
    refine x_if [] rfl rfl rfl rfl rfl (fun hg => by obtain ⟨hg0, _⟩ := hg; subst hg0; (try simp only [List.cons_append, List.nil_append, gvl_nil, gvl_t, gvl_f]); exact v_cut_to (j := 2) Try.underlying9 rfl rfl (by have h := of_decide_eq_true hb31.symm; omega)) ?_
    refine x_ifb [] rfl rfl rfl rfl rfl (fun hg => by obtain ⟨hg0, _⟩ := hg; subst hg0; (try simp only [List.cons_append, List.nil_append, gvl_nil, gvl_t, gvl_f]); exact v_seql rfl rfl) ?_
    intro b36 hb36
    refine x_bool rfl rfl rfl (v_and rfl rfl) ?_
    intro b37 hb37
    refine x_end ?_
    refine t_norm ?_
    refine w_cond rfl (fun hc37 => ?_) (fun hc37 => ?_)
    · simp only [hb37, hb36, hb31, decide_eq_true_eq, decide_eq_false_iff_not, Bool.and_eq_true, Bool.or_eq_true, Bool.and_eq_false_iff, Bool.or_eq_false_iff, Bool.not_eq_true', Bool.not_eq_false', ne_eq, Decidable.not_not] at hc37
      refine w_seq ?_
      refine rg_text ?_
      refine x_val rfl rfl rfl (v_indexArr (j := 3) (off' := 3) Try.underlying66 sz3 rfl rfl (by first | omega | (dsimp only; omega)) rfl) ?_
      refine x_val rfl rfl rfl (v_load Try.underlying3 rfl rfl (by first | exact at_ownL (.head _) rfl | exact at_ownL (.tail _ (.head _)) rfl | exact at_ownL (.tail _ (.tail _ (.head _))) rfl | (apply at_ownL; ((repeat (first | exact List.Mem.head _ | apply List.Mem.tail | apply List.mem_append_right))); rfl) | (refine at_ro (by first | exact .head _ | exact .tail _ (.head _) | exact .tail _ (.tail _ (.head _)) | simp) ?_ (by assumption); trivial))) ?_
      refine x_callv rfl rfl rfl Try.func30 (by kernel_rfl) rfl (fun w1 hw1 => c30 _ w1 hok0.2.2.2) ?_
      refine x_val rfl rfl rfl (v_fieldAddr (off' := 2) Try.underlying46 rfl sz9 (by decide) rfl rfl) ?_
      refine x_store [] rfl rfl rfl rfl sz9 rfl (by show 3 ≤ 4; decide) ?_
      refine x_end ?_
      refine t_norm ?_
      refine w_seq ?_
      refine rg_text ?_
      refine x_val rfl rfl rfl (v_fieldAddr (off' := 2) Try.underlying32 rfl sz30 (by decide) rfl rfl) ?_
      refine x_val rfl rfl rfl (v_load Try.underlying30 rfl rfl (by first | exact at_ownL (.head _) rfl | exact at_ownL (.tail _ (.head _)) rfl | exact at_ownL (.tail _ (.tail _ (.head _))) rfl | (apply at_ownL; ((repeat (first | exact List.Mem.head _ | apply List.Mem.tail | apply List.mem_append_right))); rfl) | (refine at_ro (by first | exact .head _ | exact .tail _ (.head _) | exact .tail _ (.tail _ (.head _)) | simp) ?_ (by assumption); trivial))) ?_
      refine x_val rfl rfl rfl (v_load_blk Try.underlying46 rfl rfl (by first | exact .head _ | exact .tail _ (.head _) | exact .tail _ (.tail _ (.head _)) | (repeat (first | exact List.Mem.head _ | apply List.Mem.tail | apply List.mem_append_right))) (by exact sz46)) ?_
      refine x_buildSliceL (cs := [Value.string (tagOf xs[k].a), .string ⟨#[]⟩, .string (textOf xs[k].d), .slice none 0 0]) rfl rfl rfl Try.underlying30 sz46 zr46 rfl rfl rfl ?_
      intro p45
      refine x_append (e := 46) [(p45, Obj.cells [Value.string (tagOf xs[k].a), .string ⟨#[]⟩, .string (textOf xs[k].d), .slice none 0 0].toArray 46), (p6, Obj.cells [Value.string (tagOf xs[k].a), .string (⟨#[]⟩), .string (textOf xs[k].d), .slice none 0 0].toArray 46), (p5, Obj.cells [Value.int .i64 xs[k].a, .int .i64 xs[k].b, .int .i64 xs[k].c, .int .i64 xs[k].d].toArray 66), (p3, Obj.cells [Value.int .u8 97, .int .u8 109, rowV (R) (k)].toArray 32)] (l2 := [(p2, Obj.cells [Value.int .u8 0, .int .u8 0, .slice none 0 0].toArray 32)]) R (len := k) (xs := css.flatten) rfl rfl rfl rfl rfl hrow Try.underlying30 ap46 rfl rfl (m := 1) (news := [Value.string (tagOf xs[k].a), .string ⟨#[]⟩, .string (textOf xs[k].d), .slice none 0 0]) (fun i hi => at_ownL (vs := [Value.string (tagOf xs[k].a), .string ⟨#[]⟩, .string (textOf xs[k].d), .slice none 0 0]) (.head _) (by simp)) rfl (by simp only [maxLen]; omega) (by omega) ?_
      intro R' hR'
      refine x_val rfl rfl rfl (v_fieldAddr (off' := 2) Try.underlying32 rfl sz30 (by decide) rfl rfl) ?_
      refine x_store (((p45, Obj.cells [Value.string (tagOf xs[k].a), .string ⟨#[]⟩, .string (textOf xs[k].d), .slice none 0 0].toArray 46)) :: ((p6, Obj.cells [Value.string (tagOf xs[k].a), .string (⟨#[]⟩), .string (textOf xs[k].d), .slice none 0 0].toArray 46)) :: [(p5, Obj.cells [Value.int .i64 xs[k].a, .int .i64 xs[k].b, .int .i64 xs[k].c, .int .i64 xs[k].d].toArray 66)]) rfl rfl rfl rfl sz30 rfl (by first | decide | simp) ?_
      refine x_end ?_
      refine t_norm ?_
      refine w_exit ?_
      refine t_exit ?_
      refine b_hit ?_
      refine t_norm ?_
      refine rg_text ?_
      refine x_val rfl rfl rfl (v_move rfl) ?_
      refine x_val rfl rfl rfl (v_addi rfl rfl rfl (by first | omega | (dsimp only; omega))) ?_
      refine x_val rfl rfl rfl (v_assign rfl) ?_
      refine x_end ?_
      refine s_fix ((p3, Obj.cells [Value.int .u8 97, .int .u8 109, rowV (R') (k + 1)].toArray 32) :: (rowO 46 (R') ++ [(p2, Obj.cells [Value.int .u8 0, .int .u8 0, .slice none 0 0].toArray 32)])) (((List.Sublist.refl _).cons _).cons _ |>.cons _) (fun w0 hm0 => ?_)
      have hsub : ((p3, Obj.cells [Value.int .u8 97, .int .u8 109, rowV (R') (k + 1)].toArray 32) :: (rowO 46 (R') ++ [(p2, Obj.cells [Value.int .u8 0, .int .u8 0, .slice none 0 0].toArray 32)])).Sublist ((p45, Obj.cells [Value.string (tagOf xs[k].a), .string ⟨#[]⟩, .string (textOf xs[k].d), .slice none 0 0].toArray 46) :: (p6, Obj.cells [Value.string (tagOf xs[k].a), .string (⟨#[]⟩), .string (textOf xs[k].d), .slice none 0 0].toArray 46) :: (p5, Obj.cells [Value.int .i64 xs[k].a, .int .i64 xs[k].b, .int .i64 xs[k].c, .int .i64 xs[k].d].toArray 66) :: ((p3, Obj.cells [Value.int .u8 97, .int .u8 109, rowV (R') (k + 1)].toArray 32) :: (rowO 46 (R') ++ [(p2, Obj.cells [Value.int .u8 0, .int .u8 0, .slice none 0 0].toArray 32)]))) := ((List.Sublist.refl _).cons _).cons _ |>.cons _
      have hT' := snocN (T := tyFl) (D := newD w ((p3, Obj.cells [Value.int .u8 97, .int .u8 109, rowV (R') (k + 1)].toArray 32) :: (rowO 46 (R') ++ [(p2, Obj.cells [Value.int .u8 0, .int .u8 0, .slice none 0 0].toArray 32)]))) (ws := w0) (x := madeF xs[k]) hln hcl (fun j a b => tyFl.keep (hrd j a b) (Kept.frz hm0 hsub (.head _))) hR' (by rw [show madeF xs[k] = ⟨tagOf xs[k].a, ⟨#[]⟩, textOf xs[k].d, []⟩ by unfold madeF; rw [if_pos ⟨by omega, hc37.2⟩]]; exact ⟨_, rfl, ⟨by have := tagOf_ok xs[k].a; unfold okS; dsimp only; omega, (by decide : (0 : Nat) ≤ 9223372036854775807), by have := textOf_ok xs[k].d; unfold okS; dsimp only; omega⟩, none, 0, rfl, by simp, by simp, fun h => by simp at h⟩)
      exact l_norm (k + 1, R', w0) ⟨by dsimp only; omega, by dsimp only; omega, by dsimp only; rw [List.take_succ_eq_append_getElem (by omega), List.map_append]; exact hT'⟩ (by simp only; omega) (by repeat (first | exact Sub.nil | refine Sub.cons rfl ?_)) (fun _ h => h.less (List.Sublist.refl _) ro_next)
    · simp only [hb37, hb36, hb31, decide_eq_true_eq, decide_eq_false_iff_not, Bool.and_eq_true, Bool.or_eq_true, Bool.and_eq_false_iff, Bool.or_eq_false_iff, Bool.not_eq_true', Bool.not_eq_false', ne_eq, Decidable.not_not] at hc37
      refine w_skip ?_
      refine t_norm ?_
      refine w_seq ?_
      refine rg_text ?_
      refine x_buildSliceL (cs := indL.map Value.string) rfl rfl rfl Try.underlying67 sz9 zr9 rfl rfl (by kernel_rfl) ?_
      intro p48
      refine x_val rfl rfl rfl (v_indexArr (j := 1) (off' := 1) Try.underlying66 sz3 rfl rfl (by first | omega | (dsimp only; omega)) rfl) ?_
      refine x_val rfl rfl rfl (v_load Try.underlying3 rfl rfl (by first | exact at_ownL (.head _) rfl | exact at_ownL (.tail _ (.head _)) rfl | exact at_ownL (.tail _ (.tail _ (.head _))) rfl | (apply at_ownL; ((repeat (first | exact List.Mem.head _ | apply List.Mem.tail | apply List.mem_append_right))); rfl) | (refine at_ro (by first | exact .head _ | exact .tail _ (.head _) | exact .tail _ (.tail _ (.head _)) | simp) ?_ (by assumption); trivial))) ?_
      refine x_callv rfl rfl rfl Try.func28 (by kernel_rfl) rfl (fun w1 hw1 => c28 _ _ w1 (by omega) (by omega) hok0.2.1.1 hok0.2.1.2) ?_
      obtain ⟨i8, hi8⟩ : ∃ i : Nat, xs[k].b % 8 = (i : Nat) := ⟨(xs[k].b % 8).toNat, by omega⟩
      have hi8l : i8 < 8 := by omega
      refine x_val rfl rfl rfl (v_indexAddr (j := i8) Try.underlying67 sz9 rfl (congrArg (fun z : Int => some (Value.int .i64 z)) hi8) hi8l rfl) ?_
      refine x_val rfl rfl rfl (v_load Try.underlying9 rfl rfl (at_ownL (.head _) (by rw [Nat.zero_add, Nat.mul_one]; exact pick_at (l := indL) (show _ % ((8 : Nat) : Int) = _ from hi8) hi8l))) ?_
      refine x_val rfl rfl rfl (v_fieldAddr (off' := 1) Try.underlying46 rfl sz9 (by decide) rfl rfl) ?_
      refine x_store [(p48, _)] rfl rfl rfl rfl sz9 rfl (by show 2 ≤ 4; decide) ?_
      refine x_end ?_
      refine t_norm ?_
      refine w_seq ?_
      refine rg_text ?_
      refine x_val rfl rfl rfl (v_indexArr (j := 2) (off' := 2) Try.underlying66 sz3 rfl rfl (by first | omega | (dsimp only; omega)) rfl) ?_
      refine x_val rfl rfl rfl (v_load Try.underlying3 rfl rfl (by first | exact at_ownL (.head _) rfl | exact at_ownL (.tail _ (.head _)) rfl | exact at_ownL (.tail _ (.tail _ (.head _))) rfl | (apply at_ownL; ((repeat (first | exact List.Mem.head _ | apply List.Mem.tail | apply List.mem_append_right))); rfl) | (refine at_ro (by first | exact .head _ | exact .tail _ (.head _) | exact .tail _ (.tail _ (.head _)) | simp) ?_ (by assumption); trivial))) ?_
      refine x_callv rfl rfl rfl Try.func28 (by kernel_rfl) rfl (fun w1 hw1 => c28 _ _ w1 (by omega) (by omega) hok0.2.2.1.1 hok0.2.2.1.2) ?_
      refine x_val rfl rfl rfl (v_addi rfl rfl rfl (by first | omega | (dsimp only; omega))) ?_
      refine x_val rfl rfl rfl (v_assign rfl) ?_
      refine x_end ?_
      refine t_norm ?_
      refine w_seq ?_
      refine w_seq ?_
      refine rg_text ?_
      refine x_val rfl rfl rfl (v_assign rfl) ?_
      refine x_end ?_
      refine t_norm ?_
      refine w_block ?_
      refine w_loop (σ := Nat × RowS) (fun y => (y.1 : Int) ≤ 1 + xs[k].c % 3 ∧ RowT tySb (fun _ => False) w y.2 ((List.range y.1).map (madeSub xs[k]))) (fun y => [(0, .slice A xs.length c), (2, .pointer (some ⟨p2, 0, none⟩)), (3, .pointer (some ⟨p3, 0, none⟩)), (4, Value.int .i64 (k : Nat)), (5, .pointer (some ⟨p5, 0, none⟩)), (6, .pointer (some ⟨p6, 0, none⟩)), (7, Value.int .i64 (1 + xs[k].c % 3)), (8, Value.int .i64 (y.1 : Nat))]) (fun y => (p6, Obj.cells [Value.string (tagOf xs[k].a), .string (pickS indL xs[k].b), .string (⟨#[]⟩), rowV y.2 y.1].toArray 46) :: (p5, Obj.cells [Value.int .i64 xs[k].a, .int .i64 xs[k].b, .int .i64 xs[k].c, .int .i64 xs[k].d].toArray 66) :: (rowO 48 y.2 ++ (p3, Obj.cells [Value.int .u8 97, .int .u8 109, rowV (R) (k)].toArray 32) :: (rowO 46 (R) ++ [(p2, Obj.cells [Value.int .u8 0, .int .u8 0, .slice none 0 0].toArray 32)]))) (fun y => [(ws, notOwn ((p3, Obj.cells [Value.int .u8 97, .int .u8 109, rowV (R) (k)].toArray 32) :: (rowO 46 (R) ++ [(p2, Obj.cells [Value.int .u8 0, .int .u8 0, .slice none 0 0].toArray 32)]))), (w, fun _ => True)]) (fun y => (1 + xs[k].c % 3).toNat - y.1) ((0, none)) (⟨by dsimp only; omega, RowT.nil⟩) (l_start (by repeat (first | exact Sub.nil | refine Sub.cons rfl ?_)) (fun _ h => h.less ((List.Sublist.refl _).cons _) (fun s hs => hs))) ?_
      rintro ⟨j, S⟩ ⟨hj, hS⟩
      refine w_state ([(0, .slice A xs.length c), (2, .pointer (some ⟨p2, 0, none⟩)), (3, .pointer (some ⟨p3, 0, none⟩)), (4, Value.int .i64 (k : Nat)), (5, .pointer (some ⟨p5, 0, none⟩)), (6, .pointer (some ⟨p6, 0, none⟩)), (7, Value.int .i64 (1 + xs[k].c % 3)), (8, Value.int .i64 (j : Nat))]) ((p6, Obj.cells [Value.string (tagOf xs[k].a), .string (pickS indL xs[k].b), .string (⟨#[]⟩), rowV S j].toArray 46) :: (p5, Obj.cells [Value.int .i64 xs[k].a, .int .i64 xs[k].b, .int .i64 xs[k].c, .int .i64 xs[k].d].toArray 66) :: (rowO 48 S ++ (p3, Obj.cells [Value.int .u8 97, .int .u8 109, rowV (R) (k)].toArray 32) :: (rowO 46 (R) ++ [(p2, Obj.cells [Value.int .u8 0, .int .u8 0, .slice none 0 0].toArray 32)]))) ([(ws, notOwn ((p3, Obj.cells [Value.int .u8 97, .int .u8 109, rowV (R) (k)].toArray 32) :: (rowO 46 (R) ++ [(p2, Obj.cells [Value.int .u8 0, .int .u8 0, .slice none 0 0].toArray 32)]))), (w, fun _ => True)]) ?_
      dsimp only at hj hS
      refine w_seq ?_
      refine w_seq ?_
      refine rg_text ?_
      refine x_val rfl rfl rfl (v_move rfl) ?_
      refine x_val rfl rfl rfl (v_move rfl) ?_
      refine x_bool rfl rfl rfl (v_lss rfl rfl) ?_
      intro b61 hb61
      refine x_end ?_
      refine t_norm ?_
      refine w_cond rfl (fun hc61 => ?_) (fun hc61 => ?_)
      · simp only [hb61, decide_eq_true_eq, decide_eq_false_iff_not, Bool.and_eq_true, Bool.or_eq_true, Bool.and_eq_false_iff, Bool.or_eq_false_iff, Bool.not_eq_true', Bool.not_eq_false', ne_eq, Decidable.not_not] at hc61
        have hmul := mul9 (j := (j : Int)) (m := 1 + xs[k].b % 3) (a := 3) (b := 3) ⟨by omega, by omega⟩ ⟨by omega, by omega⟩
        have htd := tdiv3 hok0.2.2.1
        have hmr := IntKind.wrap_i64 0
        refine w_skip ?_
        refine t_norm ?_
        refine w_seq ?_
        refine w_block ?_
        refine rg_draw 22 [(true, 0), (true, 1), (true, 2), (true, 3), (true, 4), (true, 5), (true, 6), (true, 7), (true, 8), (true, 9), (true, 10), (true, 11), (true, 12), (true, 13), (true, 14), (true, 15), (true, 16), (true, 17), (true, 18), (true, 19), (true, 20), (false, 21)] (by kernel_rfl) (by kernel_rfl) ?_
        refine x_val rfl rfl rfl (v_fieldAddr (off' := 3) Try.underlying46 rfl sz44 (by decide) rfl rfl) ?_
        refine x_val rfl rfl rfl (v_load Try.underlying44 rfl rfl (by first | exact at_ownL (.head _) rfl | exact at_ownL (.tail _ (.head _)) rfl | exact at_ownL (.tail _ (.tail _ (.head _))) rfl | (apply at_ownL; ((repeat (first | exact List.Mem.head _ | apply List.Mem.tail | apply List.mem_append_right))); rfl) | (refine at_ro (by first | exact .head _ | exact .tail _ (.head _) | exact .tail _ (.tail _ (.head _)) | simp) ?_ (by assumption); trivial))) ?_
        refine x_val rfl rfl rfl (v_indexArr (j := 2) (off' := 2) Try.underlying66 sz3 rfl rfl (by first | omega | (dsimp only; omega)) rfl) ?_
        refine x_val rfl rfl rfl (v_load Try.underlying3 rfl rfl (by first | exact at_ownL (.head _) rfl | exact at_ownL (.tail _ (.head _)) rfl | exact at_ownL (.tail _ (.tail _ (.head _))) rfl | (apply at_ownL; ((repeat (first | exact List.Mem.head _ | apply List.Mem.tail | apply List.mem_append_right))); rfl) | (refine at_ro (by first | exact .head _ | exact .tail _ (.head _) | exact .tail _ (.tail _ (.head _)) | simp) ?_ (by assumption); trivial))) ?_
        refine x_val rfl rfl rfl (v_quoi rfl rfl (by first | omega | (dsimp only; omega)) rfl (by first | omega | (dsimp only; omega))) ?_
        refine x_val rfl rfl rfl (v_move rfl) ?_
        refine x_val rfl rfl rfl (v_indexArr (j := 1) (off' := 1) Try.underlying66 sz3 rfl rfl (by first | omega | (dsimp only; omega)) rfl) ?_
        refine x_val rfl rfl rfl (v_load Try.underlying3 rfl rfl (by first | exact at_ownL (.head _) rfl | exact at_ownL (.tail _ (.head _)) rfl | exact at_ownL (.tail _ (.tail _ (.head _))) rfl | (apply at_ownL; ((repeat (first | exact List.Mem.head _ | apply List.Mem.tail | apply List.mem_append_right))); rfl) | (refine at_ro (by first | exact .head _ | exact .tail _ (.head _) | exact .tail _ (.tail _ (.head _)) | simp) ?_ (by assumption); trivial))) ?_
        refine x_callv rfl rfl rfl Try.func28 (by kernel_rfl) rfl (fun w1 hw1 => c28 _ _ w1 (by omega) (by omega) hok0.2.1.1 hok0.2.1.2) ?_
        refine x_val rfl rfl rfl (v_addi rfl rfl rfl (by first | omega | (dsimp only; omega))) ?_
        refine x_val rfl rfl rfl (v_muli rfl rfl rfl (by first | omega | (dsimp only; omega))) ?_
        refine x_val rfl rfl rfl (v_addi rfl rfl rfl (by first | omega | (dsimp only; omega))) ?_
        refine x_callv rfl rfl rfl Try.func28 (by kernel_rfl) rfl (fun w1 hw1 => c28 _ _ w1 (by omega) (by omega) (by omega) (by omega)) ?_
        obtain ⟨i9, hi9⟩ : ∃ i : Nat, (xs[k].c.tdiv 3 + (j : Int) * (1 + xs[k].b % 3)) % 8 = (i : Nat) := ⟨((xs[k].c.tdiv 3 + (j : Int) * (1 + xs[k].b % 3)) % 8).toNat, by omega⟩
        have hi9l : i9 < 8 := by omega
        refine x_val rfl rfl rfl (v_index (s := codesL) (j := i9) Try.underlying9 rfl (congrArg (fun z : Int => some (Value.int .i64 z)) hi9) hi9l) ?_
        refine x_val rfl rfl rfl (v_indexArr (j := 3) (off' := 3) Try.underlying66 sz3 rfl rfl (by first | omega | (dsimp only; omega)) rfl) ?_
        refine x_val rfl rfl rfl (v_load Try.underlying3 rfl rfl (by first | exact at_ownL (.head _) rfl | exact at_ownL (.tail _ (.head _)) rfl | exact at_ownL (.tail _ (.tail _ (.head _))) rfl | (apply at_ownL; ((repeat (first | exact List.Mem.head _ | apply List.Mem.tail | apply List.mem_append_right))); rfl) | (refine at_ro (by first | exact .head _ | exact .tail _ (.head _) | exact .tail _ (.tail _ (.head _)) | simp) ?_ (by assumption); trivial))) ?_
        refine x_val rfl rfl rfl (v_move rfl) ?_
        refine x_val rfl rfl rfl (v_muli rfl rfl rfl (by first | omega | (dsimp only; omega))) ?_
        refine x_val rfl rfl rfl (v_add rfl rfl) ?_
        refine x_callv rfl rfl rfl Try.func30 (by kernel_rfl) rfl (fun w1 hw1 => c30 _ w1 (wrap_rng _)) ?_
        refine x_val rfl rfl rfl (v_buildL (places := [(0, 1), (1, 1)]) Try.underlying48 zr48 (by kernel_rfl) rfl rfl) ?_
        refine x_buildSliceL rfl rfl rfl Try.underlying44 sz48 zr48 rfl rfl rfl ?_
        intro p85
        obtain ⟨ss, hsl, hsrow, hsrd⟩ := hS
        rw [List.length_map, List.length_range] at hsl hsrow
        refine x_append (e := 48) [(p85, _), (p6, _), (p5, _)] (l2 := (p3, Obj.cells [Value.int .u8 97, .int .u8 109, rowV (R) (k)].toArray 32) :: (rowO 46 (R) ++ [(p2, Obj.cells [Value.int .u8 0, .int .u8 0, .slice none 0 0].toArray 32)])) S (len := j) (xs := ss.flatten) rfl rfl rfl rfl rfl hsrow Try.underlying44 ap48 rfl rfl (m := 1) (news := [Value.int .u8 (byteAt codesL i9).toNat, .string (textOf (IntKind.i64.wrap (xs[k].d + 3 * (j : Int))))]) (fun i hi => at_ownL (vs := [Value.int .u8 (byteAt codesL i9).toNat, .string (textOf (IntKind.i64.wrap (xs[k].d + 3 * (j : Int))))]) (.head _) (by simp)) rfl (by simp only [maxLen]; omega) (by omega) ?_
        intro S' hS'
        refine x_val rfl rfl rfl (v_fieldAddr (off' := 3) Try.underlying46 rfl sz44 (by decide) rfl rfl) ?_
        refine x_store [(p85, _)] rfl rfl rfl rfl sz44 rfl (by first | decide | simp) ?_
        refine x_end ?_
        refine b_norm ?_
        refine t_norm ?_
        refine rg_text ?_
        refine x_val rfl rfl rfl (v_move rfl) ?_
        refine x_val rfl rfl rfl (v_addi rfl rfl rfl (by first | omega | (dsimp only; omega))) ?_
        refine x_val rfl rfl rfl (v_assign rfl) ?_
        refine x_end ?_
        have hms : madeSub xs[k] j = ⟨byteAt codesL i9, textOf (IntKind.i64.wrap (xs[k].d + 3 * (j : Int)))⟩ := by unfold madeSub; rw [hi9, Int.toNat_natCast]
        have hS2 := snocN (T := tySb) (D := fun _ => False) (ws := w) (x := madeSub xs[k] j) (xs := (List.range j).map (madeSub xs[k])) (by simp) hsl hsrd hS' (by rw [hms]; exact ⟨rfl, by have := textOf_ok (IntKind.i64.wrap (xs[k].d + 3 * (j : Int))); unfold okS; dsimp only; omega⟩)
        exact l_norm (j + 1, S') ⟨by dsimp only; omega, by dsimp only; rw [List.range_succ, List.map_append]; exact hS2⟩ (by simp only; omega) (by repeat (first | exact Sub.nil | refine Sub.cons rfl ?_)) (fun _ h => h.less ((List.Sublist.refl _).cons _) (fun _ h => h))
      · simp only [hb61, decide_eq_true_eq, decide_eq_false_iff_not, Bool.and_eq_true, Bool.or_eq_true, Bool.and_eq_false_iff, Bool.or_eq_false_iff, Bool.not_eq_true', Bool.not_eq_false', ne_eq, Decidable.not_not] at hc61
        have hjm : (1 + (xs[k].c % 3).toNat) = j := by omega
        refine w_fix ((p6, Obj.cells [Value.string (tagOf xs[k].a), .string (pickS indL xs[k].b), .string (⟨#[]⟩), rowV S j].toArray 46) :: (p5, Obj.cells [Value.int .i64 xs[k].a, .int .i64 xs[k].b, .int .i64 xs[k].c, .int .i64 xs[k].d].toArray 66) :: ((p3, Obj.cells [Value.int .u8 97, .int .u8 109, rowV (R) (k)].toArray 32) :: (rowO 46 (R) ++ [(p2, Obj.cells [Value.int .u8 0, .int .u8 0, .slice none 0 0].toArray 32)]))) (sub_mid [(p6, Obj.cells [Value.string (tagOf xs[k].a), .string (pickS indL xs[k].b), .string (⟨#[]⟩), rowV S j].toArray 46), (p5, Obj.cells [Value.int .i64 xs[k].a, .int .i64 xs[k].b, .int .i64 xs[k].c, .int .i64 xs[k].d].toArray 66)]) (fun w3 hm3 => ?_)
        have hSr := RowT.plain (w0 := w) (n := j) [(p6, Obj.cells [Value.string (tagOf xs[k].a), .string (pickS indL xs[k].b), .string (⟨#[]⟩), rowV S j].toArray 46), (p5, Obj.cells [Value.int .i64 xs[k].a, .int .i64 xs[k].b, .int .i64 xs[k].c, .int .i64 xs[k].d].toArray 66)] hS rfl hm3 (by simp) (by simp)
        refine w_exit ?_
        refine t_exit ?_
        refine t_exit ?_
        refine b_hit ?_
        refine t_norm ?_
        refine rg_text ?_
        refine x_val rfl rfl rfl (v_fieldAddr (off' := 2) Try.underlying32 rfl sz30 (by decide) rfl rfl) ?_
        refine x_val rfl rfl rfl (v_load Try.underlying30 rfl rfl (by first | exact at_ownL (.head _) rfl | exact at_ownL (.tail _ (.head _)) rfl | exact at_ownL (.tail _ (.tail _ (.head _))) rfl | (apply at_ownL; ((repeat (first | exact List.Mem.head _ | apply List.Mem.tail | apply List.mem_append_right))); rfl) | (refine at_ro (by first | exact .head _ | exact .tail _ (.head _) | exact .tail _ (.tail _ (.head _)) | simp) ?_ (by assumption); trivial))) ?_
        refine x_val rfl rfl rfl (v_load_blk Try.underlying46 rfl rfl (by first | exact .head _ | exact .tail _ (.head _) | exact .tail _ (.tail _ (.head _)) | (repeat (first | exact List.Mem.head _ | apply List.Mem.tail | apply List.mem_append_right))) (by exact sz46)) ?_
        refine x_buildSliceL (cs := [Value.string (tagOf xs[k].a), .string (pickS indL xs[k].b), .string ⟨#[]⟩, rowV S j]) rfl rfl rfl Try.underlying30 sz46 zr46 rfl rfl rfl ?_
        intro p91
        refine x_append (e := 46) [(p91, Obj.cells [Value.string (tagOf xs[k].a), .string (pickS indL xs[k].b), .string ⟨#[]⟩, rowV S j].toArray 46), (p6, Obj.cells [Value.string (tagOf xs[k].a), .string (pickS indL xs[k].b), .string (⟨#[]⟩), rowV S j].toArray 46), (p5, Obj.cells [Value.int .i64 xs[k].a, .int .i64 xs[k].b, .int .i64 xs[k].c, .int .i64 xs[k].d].toArray 66), (p3, Obj.cells [Value.int .u8 97, .int .u8 109, rowV (R) (k)].toArray 32)] (l2 := [(p2, Obj.cells [Value.int .u8 0, .int .u8 0, .slice none 0 0].toArray 32)]) R (len := k) (xs := css.flatten) rfl rfl rfl rfl rfl hrow Try.underlying30 ap46 rfl rfl (m := 1) (news := [Value.string (tagOf xs[k].a), .string (pickS indL xs[k].b), .string ⟨#[]⟩, rowV S j]) (fun i hi => at_ownL (vs := [Value.string (tagOf xs[k].a), .string (pickS indL xs[k].b), .string ⟨#[]⟩, rowV S j]) (.head _) (by simp)) rfl (by simp only [maxLen]; omega) (by omega) ?_
        intro R' hR'
        refine x_val rfl rfl rfl (v_fieldAddr (off' := 2) Try.underlying32 rfl sz30 (by decide) rfl rfl) ?_
        refine x_store (((p91, Obj.cells [Value.string (tagOf xs[k].a), .string (pickS indL xs[k].b), .string ⟨#[]⟩, rowV S j].toArray 46)) :: ((p6, Obj.cells [Value.string (tagOf xs[k].a), .string (pickS indL xs[k].b), .string (⟨#[]⟩), rowV S j].toArray 46)) :: [(p5, Obj.cells [Value.int .i64 xs[k].a, .int .i64 xs[k].b, .int .i64 xs[k].c, .int .i64 xs[k].d].toArray 66)]) rfl rfl rfl rfl sz30 rfl (by first | decide | simp) ?_
        refine x_end ?_
        refine b_norm ?_
        refine t_norm ?_
        refine rg_text ?_
        refine x_val rfl rfl rfl (v_move rfl) ?_
        refine x_val rfl rfl rfl (v_addi rfl rfl rfl (by first | omega | (dsimp only; omega))) ?_
        refine x_val rfl rfl rfl (v_assign rfl) ?_
        refine x_end ?_
        refine s_fix ((p3, Obj.cells [Value.int .u8 97, .int .u8 109, rowV (R') (k + 1)].toArray 32) :: (rowO 46 (R') ++ [(p2, Obj.cells [Value.int .u8 0, .int .u8 0, .slice none 0 0].toArray 32)])) (((List.Sublist.refl _).cons _).cons _ |>.cons _) (fun w0 hm0 => ?_)
        have hsub : ((p3, Obj.cells [Value.int .u8 97, .int .u8 109, rowV (R') (k + 1)].toArray 32) :: (rowO 46 (R') ++ [(p2, Obj.cells [Value.int .u8 0, .int .u8 0, .slice none 0 0].toArray 32)])).Sublist ((p91, Obj.cells [Value.string (tagOf xs[k].a), .string (pickS indL xs[k].b), .string ⟨#[]⟩, rowV S j].toArray 46) :: (p6, Obj.cells [Value.string (tagOf xs[k].a), .string (pickS indL xs[k].b), .string (⟨#[]⟩), rowV S j].toArray 46) :: (p5, Obj.cells [Value.int .i64 xs[k].a, .int .i64 xs[k].b, .int .i64 xs[k].c, .int .i64 xs[k].d].toArray 66) :: ((p3, Obj.cells [Value.int .u8 97, .int .u8 109, rowV (R') (k + 1)].toArray 32) :: (rowO 46 (R') ++ [(p2, Obj.cells [Value.int .u8 0, .int .u8 0, .slice none 0 0].toArray 32)]))) := ((List.Sublist.refl _).cons _).cons _ |>.cons _
        have hT' := snocN (T := tyFl) (D := newD w ((p3, Obj.cells [Value.int .u8 97, .int .u8 109, rowV (R') (k + 1)].toArray 32) :: (rowO 46 (R') ++ [(p2, Obj.cells [Value.int .u8 0, .int .u8 0, .slice none 0 0].toArray 32)]))) (ws := w0) (x := madeF xs[k]) hln hcl (fun j a b => tyFl.keep (hrd j a b) (Kept.frz hm0 hsub (.tail _ (.head _)))) hR' (by rw [show madeF xs[k] = ⟨tagOf xs[k].a, pickS indL xs[k].b, ⟨#[]⟩, (List.range j).map (madeSub xs[k])⟩ by unfold madeF; rw [if_neg (fun h => by rcases hc37 with h2 | h2; (· omega); exact h2 h.2), hjm]]; exact ⟨_, rfl, ⟨by have := tagOf_ok xs[k].a; unfold okS; dsimp only; omega, by have := indOf_ok xs[k].b; unfold okS; dsimp only; omega, (by decide : (0 : Nat) ≤ 9223372036854775807)⟩, hSr.keep (Kept.frz hm0 hsub (.head _))⟩)
        exact l_norm (k + 1, R', w0) ⟨by dsimp only; omega, by dsimp only; omega, by dsimp only; rw [List.take_succ_eq_append_getElem (by omega), List.map_append]; exact hT'⟩ (by simp only; omega) (by repeat (first | exact Sub.nil | refine Sub.cons rfl ?_)) (fun _ h => h.less (List.Sublist.refl _) (fun s hs => by rcases List.mem_cons.1 hs with rfl | hs; (· exact .head _); exact .tail _ (.tail _ (.tail _ hs))))
  · simp only [hb17, hb16, hb13, decide_eq_true_eq, decide_eq_false_iff_not, Bool.and_eq_true, Bool.or_eq_true, Bool.and_eq_false_iff, Bool.or_eq_false_iff, Bool.not_eq_true', Bool.not_eq_false', ne_eq, Decidable.not_not] at hc17
    have hkm : xs.take k = xs.take 20 := by rw [List.take_eq_take_iff]; omega
    refine w_exit ?_
    refine t_exit ?_
    refine t_exit ?_
    refine b_hit ?_
    refine t_norm ?_
    refine w_seq ?_
    refine rg_text ?_
    refine x_val rfl rfl rfl (v_load_blk (e := 32) (cs := [Value.int .u8 97, .int .u8 109, rowV R k].toArray) Try.underlying32 rfl rfl (.head _) (by exact sz32)) ?_
    refine x_store0 (((p3, Obj.cells [Value.int .u8 97, .int .u8 109, rowV (R) (k)].toArray 32)) :: rowO 46 R) rfl rfl rfl rfl sz32 rfl rfl ?_
    refine x_end ?_
    refine t_norm ?_
    refine w_ret ?_
    refine retc rfl rfl (List.mem_cons_of_mem _ (List.mem_append_right _ (.head _))) Try.underlying32 rfl sz32 (fun w' hm => ⟨_, rfl, hm.base (by simp), ?_⟩)
    rw [hkm] at hT hln
    exact (hT.keep (Kept.out hm (.head _))).rd (e := 46) hm (fun p hp => List.mem_cons_of_mem _ (List.mem_append_left _ hp)) (fun _ h => h) (fun p hp => hm.newer (by simp) (List.mem_cons_of_mem _ (List.mem_append_left _ hp))) hln.symm

end Go.Proofs.Ytmihkbciilloaaa
