import Derived.Test.YtmihkbciilloaaaWt
import Derived.Test.YtmihkbciilloaaaPkRules
namespace Go.Proofs.Ytmihkbciilloaaa
open Go.RowKit Go.PK
set_option linter.unusedVariables false
set_option linter.unusedSimpArgs false

theorem ap27 : (Try.prog.info? 27).map (fun j => (j.zero, j.size, j.bytes)) = some (some (.agg #[.string ⟨#[]⟩, .bool false, .bool false, .string ⟨#[]⟩, .string ⟨#[]⟩, .string ⟨#[]⟩, .string ⟨#[]⟩]), 7, 88) := by kernel_rfl
set_option maxRecDepth 100000 in
theorem c20 {v : Value} {xs : List I4} {D : Nat → Prop} (w : World) (hxs : sliceRd tyI4 D w v xs) :
    Calls Try.prog 20 #[v] w fun e w' => ∃ v, e = .returned v ∧ Later w w' ∧ sliceRd tyRl (fun b => w.heap.size ≤ b) w' v (rulesOf xs) := by
  obtain ⟨A, c, rfl, hlc, hmx, hA⟩ := hxs
  refine enter (vs := [.slice A xs.length c]) Try.func20 rfl Try.ntmps20 rfl ?_
  refine w_seq ?_
  refine rg_text ?_
  refine x_val rfl rfl rfl (v_assign rfl) ?_
  refine x_end ?_
  refine t_norm ?_
  refine w_seq ?_
  refine rg_text ?_
  refine x_val rfl rfl rfl (v_assign rfl) ?_
  refine x_end ?_
  refine t_norm ?_
  refine w_seq ?_
  refine w_seq ?_
  refine rg_text ?_
  refine x_val rfl rfl rfl (v_assign rfl) ?_
  refine x_end ?_
  refine t_norm ?_
  refine w_block ?_
  refine w_loop (σ := Nat × RowS) (fun x => x.1 ≤ xs.length ∧ x.1 ≤ 8 ∧ RowT tyRl (fun _ => False) w x.2 ((xs.take x.1).map ruleOf)) (fun x => [(0, .slice A xs.length c), (3, rowV x.2 x.1), (4, Value.int .i64 (x.1 : Nat))]) (fun x => rowO 27 x.2) (fun x => [(w, fun _ => True)]) (fun x => 8 - x.1) ((0, none)) (⟨Nat.zero_le _, Nat.zero_le _, RowT.nil⟩) (l_start (by repeat (first | exact Sub.nil | refine Sub.cons rfl ?_)) (fun _ h => h)) ?_
  rintro ⟨k, R⟩ ⟨hk, hk8, hT⟩
  refine w_state ([(0, .slice A xs.length c), (3, rowV R k), (4, Value.int .i64 (k : Nat))]) (rowO 27 R) ([(w, fun _ => True)]) ?_
  dsimp only at hk hk8 hT
  have hln : ((xs.take k).map ruleOf).length = k := by simp; omega
  refine w_seq ?_
  refine w_seq ?_
  refine rg_text ?_
  refine x_val rfl rfl rfl (v_move rfl) ?_
  refine x_val rfl rfl rfl (v_move rfl) ?_
  refine x_val rfl rfl rfl (v_len_slice Try.underlying28 rfl) ?_
  refine x_bool rfl rfl rfl (v_lss rfl rfl) ?_
  intro b10 hb10
  refine x_val rfl rfl rfl (v_move rfl) ?_
  refine x_if [] rfl rfl rfl rfl rfl (fun hg => by obtain ⟨hg0, _⟩ := hg; subst hg0; (try simp only [List.cons_append, List.nil_append, gvl_nil, gvl_t, gvl_f]); exact v_move rfl) ?_
  refine x_ifb [] rfl rfl rfl rfl rfl (fun hg => by obtain ⟨hg0, _⟩ := hg; subst hg0; (try simp only [List.cons_append, List.nil_append, gvl_nil, gvl_t, gvl_f]); exact v_lss rfl rfl) ?_
  intro b13 hb13
  refine x_bool rfl rfl rfl (v_and rfl rfl) ?_
  intro b14 hb14
  refine x_end ?_
  refine t_norm ?_
  refine w_cond rfl (fun hc14 => ?_) (fun hc14 => ?_)
  · simp only [hb14, hb13, hb10, decide_eq_true_eq, decide_eq_false_iff_not, Bool.and_eq_true, Bool.or_eq_true, Bool.and_eq_false_iff, Bool.or_eq_false_iff, Bool.not_eq_true', Bool.not_eq_false', ne_eq, Decidable.not_not] at hc14
    have hkl : k < xs.length := by omega
    obtain ⟨b0, o0, hv0, hD0, hb0, hcell0⟩ := hA (by omega)
    obtain ⟨cs0, hcs0, hrd0, hok0⟩ := hcell0 k hkl
    subst hrd0
    obtain ⟨css, hcl, hrow, hrd⟩ := hT
    rw [hln] at hrow hcl
    have t4 := tdiv_in (m := 4) hok0.2.2.1 (by omega)
    have t16 := tdiv_in (m := 16) hok0.2.2.1 (by omega)
    have t8 := tdiv_in (m := 8) hok0.2.2.2 (by omega)
    unfold in64 at t4 t16 t8
    refine w_skip ?_
    refine t_norm ?_
    refine w_seq ?_
    refine w_block ?_
    refine w_seq ?_
    refine rg_text ?_
    refine x_val rfl rfl rfl (v_move rfl) ?_
    refine x_val rfl rfl rfl (v_move rfl) ?_
    refine x_val rfl rfl rfl (v_indexAddr Try.underlying28 sz66 (congrArg (fun A => some (Value.slice A xs.length c)) hv0) rfl (by first | omega | (dsimp only; omega)) rfl) ?_
    refine x_val rfl rfl rfl (v_loadN (vs := [Value.int .i64 xs[k].a, .int .i64 xs[k].b, .int .i64 xs[k].c, .int .i64 xs[k].d]) Try.underlying66 rfl sz66 rfl (fun i hi => at_ro (.head _) trivial (hcs0 i hi))) ?_
    refine x_alloc rfl rfl rfl zr66 ?_
    intro p5
    refine x_store0 [] rfl rfl rfl rfl sz66 rfl rfl ?_
    refine x_end ?_
    refine t_norm ?_
    refine w_seq ?_
    refine rg_text ?_
    refine x_val rfl rfl rfl (v_indexArr (j := 0) (off' := 0) Try.underlying66 sz3 rfl rfl (by first | omega | (dsimp only; omega)) rfl) ?_
    refine x_val rfl rfl rfl (v_load Try.underlying3 rfl rfl (by first | exact at_ownL (.head _) rfl | exact at_ownL (.tail _ (.head _)) rfl | exact at_ownL (.tail _ (.tail _ (.head _))) rfl | (apply at_ownL; ((repeat (first | exact List.Mem.head _ | apply List.Mem.tail | apply List.mem_append_right))); rfl) | (refine at_ro (by first | exact .head _ | exact .tail _ (.head _) | exact .tail _ (.tail _ (.head _)) | simp) ?_ (by assumption); trivial))) ?_
    refine x_callv rfl rfl rfl Try.func29 (by kernel_rfl) rfl (fun w1 hw1 => c29 _ w1 hok0.1) ?_
    refine x_buildSliceL (cs := (rtags (tagOf xs[k].a)).map Value.string) rfl rfl rfl Try.underlying67 sz9 zr9 rfl rfl rfl ?_
    intro p24
    refine x_val rfl rfl rfl (v_assign rfl) ?_
    refine x_end ?_
    refine t_norm ?_
    refine rg_draw 37 [(true, 0), (true, 1), (true, 2), (true, 3), (true, 4), (true, 5), (true, 6), (true, 7), (true, 8), (true, 9), (true, 10), (true, 11), (true, 12), (true, 13), (true, 14), (true, 15), (true, 16), (true, 17), (true, 18), (true, 19), (true, 20), (true, 21), (true, 22), (true, 23), (true, 24), (true, 25), (true, 26), (true, 27), (true, 28), (true, 29), (true, 30), (true, 31), (true, 32), (true, 33), (true, 34), (true, 35), (false, 36)] (by kernel_rfl) (by kernel_rfl) ?_
    refine x_val rfl rfl rfl (v_move rfl) ?_
    refine x_val rfl rfl rfl (v_move rfl) ?_
    refine x_val rfl rfl rfl (v_indexArr (j := 1) (off' := 1) Try.underlying66 sz3 rfl rfl (by first | omega | (dsimp only; omega)) rfl) ?_
    refine x_val rfl rfl rfl (v_load Try.underlying3 rfl rfl (by first | exact at_ownL (.head _) rfl | exact at_ownL (.tail _ (.head _)) rfl | exact at_ownL (.tail _ (.tail _ (.head _))) rfl | (apply at_ownL; ((repeat (first | exact List.Mem.head _ | apply List.Mem.tail | apply List.mem_append_right))); rfl) | (refine at_ro (by first | exact .head _ | exact .tail _ (.head _) | exact .tail _ (.tail _ (.head _)) | simp) ?_ (by assumption); trivial))) ?_
    refine x_callv rfl rfl rfl Try.func28 (by kernel_rfl) rfl (fun w1 hw1 => c28 _ _ w1 (by omega) (by omega) hok0.2.1.1 hok0.2.1.2) ?_
    obtain ⟨i8, hi8⟩ : ∃ i : Nat, xs[k].b % 8 = (i : Nat) := ⟨(xs[k].b % 8).toNat, by omega⟩
    have hi8l : i8 < 8 := by omega
    refine x_val rfl rfl rfl (v_indexAddr (j := i8) Try.underlying67 sz9 rfl (congrArg (fun z : Int => some (Value.int .i64 z)) hi8) hi8l rfl) ?_
    refine x_val rfl rfl rfl (v_load Try.underlying9 rfl rfl (at_ownL (.head _) (by rw [Nat.zero_add, Nat.mul_one]; exact pick_at (l := rtags (tagOf xs[k].a)) (show _ % ((8 : Nat) : Int) = _ from hi8) hi8l))) ?_
    refine x_val rfl rfl rfl (v_indexArr (j := 2) (off' := 2) Try.underlying66 sz3 rfl rfl (by first | omega | (dsimp only; omega)) rfl) ?_
    refine x_val rfl rfl rfl (v_load Try.underlying3 rfl rfl (by first | exact at_ownL (.head _) rfl | exact at_ownL (.tail _ (.head _)) rfl | exact at_ownL (.tail _ (.tail _ (.head _))) rfl | (apply at_ownL; ((repeat (first | exact List.Mem.head _ | apply List.Mem.tail | apply List.mem_append_right))); rfl) | (refine at_ro (by first | exact .head _ | exact .tail _ (.head _) | exact .tail _ (.tail _ (.head _)) | simp) ?_ (by assumption); trivial))) ?_
    refine x_val rfl rfl rfl (v_andi rfl rfl) ?_
    refine x_bool rfl rfl rfl (v_neq rfl rfl) ?_
    intro b35 hb35
    refine x_val rfl rfl rfl (v_indexArr (j := 2) (off' := 2) Try.underlying66 sz3 rfl rfl (by first | omega | (dsimp only; omega)) rfl) ?_
    refine x_val rfl rfl rfl (v_load Try.underlying3 rfl rfl (by first | exact at_ownL (.head _) rfl | exact at_ownL (.tail _ (.head _)) rfl | exact at_ownL (.tail _ (.tail _ (.head _))) rfl | (apply at_ownL; ((repeat (first | exact List.Mem.head _ | apply List.Mem.tail | apply List.mem_append_right))); rfl) | (refine at_ro (by first | exact .head _ | exact .tail _ (.head _) | exact .tail _ (.tail _ (.head _)) | simp) ?_ (by assumption); trivial))) ?_
    refine x_val rfl rfl rfl (v_andi rfl rfl) ?_
    refine x_bool rfl rfl rfl (v_neq rfl rfl) ?_
    intro b39 hb39
    refine x_val rfl rfl rfl (v_indexArr (j := 2) (off' := 2) Try.underlying66 sz3 rfl rfl (by first | omega | (dsimp only; omega)) rfl) ?_
    refine x_val rfl rfl rfl (v_load Try.underlying3 rfl rfl (by first | exact at_ownL (.head _) rfl | exact at_ownL (.tail _ (.head _)) rfl | exact at_ownL (.tail _ (.tail _ (.head _))) rfl | (apply at_ownL; ((repeat (first | exact List.Mem.head _ | apply List.Mem.tail | apply List.mem_append_right))); rfl) | (refine at_ro (by first | exact .head _ | exact .tail _ (.head _) | exact .tail _ (.tail _ (.head _)) | simp) ?_ (by assumption); trivial))) ?_
    refine x_val rfl rfl rfl (v_quoi rfl rfl (by first | omega | (dsimp only; omega)) rfl (by first | omega | (dsimp only; omega))) ?_
    refine x_callv rfl rfl rfl Try.func28 (by kernel_rfl) rfl (fun w1 hw1 => c28 _ _ w1 (by omega) (by omega) t4.1 t4.2) ?_
    obtain ⟨j1, hj1⟩ : ∃ i : Nat, xs[k].c.tdiv 4 % 4 = (i : Nat) := ⟨(xs[k].c.tdiv 4 % 4).toNat, by omega⟩
    have hj1l : j1 < 4 := by omega
    refine x_val rfl rfl rfl (v_cut_to (s := s01) (j := j1) Try.underlying9 rfl (congrArg (fun z : Int => some (Value.int .i64 z)) hj1) (by show j1 ≤ 3; omega)) ?_
    refine x_val rfl rfl rfl (v_indexArr (j := 2) (off' := 2) Try.underlying66 sz3 rfl rfl (by first | omega | (dsimp only; omega)) rfl) ?_
    refine x_val rfl rfl rfl (v_load Try.underlying3 rfl rfl (by first | exact at_ownL (.head _) rfl | exact at_ownL (.tail _ (.head _)) rfl | exact at_ownL (.tail _ (.tail _ (.head _))) rfl | (apply at_ownL; ((repeat (first | exact List.Mem.head _ | apply List.Mem.tail | apply List.mem_append_right))); rfl) | (refine at_ro (by first | exact .head _ | exact .tail _ (.head _) | exact .tail _ (.tail _ (.head _)) | simp) ?_ (by assumption); trivial))) ?_
    refine x_val rfl rfl rfl (v_quoi rfl rfl (by first | omega | (dsimp only; omega)) rfl (by first | omega | (dsimp only; omega))) ?_
    refine x_callv rfl rfl rfl Try.func28 (by kernel_rfl) rfl (fun w1 hw1 => c28 _ _ w1 (by omega) (by omega) t16.1 t16.2) ?_
    obtain ⟨j2, hj2⟩ : ∃ i : Nat, xs[k].c.tdiv 16 % 4 = (i : Nat) := ⟨(xs[k].c.tdiv 16 % 4).toNat, by omega⟩
    have hj2l : j2 < 4 := by omega
    refine x_val rfl rfl rfl (v_cut_to (s := s02) (j := j2) Try.underlying9 rfl (congrArg (fun z : Int => some (Value.int .i64 z)) hj2) (by show j2 ≤ 3; omega)) ?_
    refine x_val rfl rfl rfl (v_buildArr Try.underlying25 zr25 sz9 rfl rfl) ?_
    refine x_val rfl rfl rfl (v_indexArr (j := 3) (off' := 3) Try.underlying66 sz3 rfl rfl (by first | omega | (dsimp only; omega)) rfl) ?_
    refine x_val rfl rfl rfl (v_load Try.underlying3 rfl rfl (by first | exact at_ownL (.head _) rfl | exact at_ownL (.tail _ (.head _)) rfl | exact at_ownL (.tail _ (.tail _ (.head _))) rfl | (apply at_ownL; ((repeat (first | exact List.Mem.head _ | apply List.Mem.tail | apply List.mem_append_right))); rfl) | (refine at_ro (by first | exact .head _ | exact .tail _ (.head _) | exact .tail _ (.tail _ (.head _)) | simp) ?_ (by assumption); trivial))) ?_
    refine x_callv rfl rfl rfl Try.func28 (by kernel_rfl) rfl (fun w1 hw1 => c28 _ _ w1 (by omega) (by omega) hok0.2.2.2.1 hok0.2.2.2.2) ?_
    obtain ⟨j3, hj3⟩ : ∃ i : Nat, xs[k].d % 8 = (i : Nat) := ⟨(xs[k].d % 8).toNat, by omega⟩
    have hj3l : j3 < 8 := by omega
    refine x_val rfl rfl rfl (v_cut_to (s := sC) (j := j3) Try.underlying9 rfl (congrArg (fun z : Int => some (Value.int .i64 z)) hj3) (by show j3 ≤ 7; omega)) ?_
    refine x_val rfl rfl rfl (v_indexArr (j := 3) (off' := 3) Try.underlying66 sz3 rfl rfl (by first | omega | (dsimp only; omega)) rfl) ?_
    refine x_val rfl rfl rfl (v_load Try.underlying3 rfl rfl (by first | exact at_ownL (.head _) rfl | exact at_ownL (.tail _ (.head _)) rfl | exact at_ownL (.tail _ (.tail _ (.head _))) rfl | (apply at_ownL; ((repeat (first | exact List.Mem.head _ | apply List.Mem.tail | apply List.mem_append_right))); rfl) | (refine at_ro (by first | exact .head _ | exact .tail _ (.head _) | exact .tail _ (.tail _ (.head _)) | simp) ?_ (by assumption); trivial))) ?_
    refine x_val rfl rfl rfl (v_quoi rfl rfl (by first | omega | (dsimp only; omega)) rfl (by first | omega | (dsimp only; omega))) ?_
    refine x_callv rfl rfl rfl Try.func28 (by kernel_rfl) rfl (fun w1 hw1 => c28 _ _ w1 (by omega) (by omega) t8.1 t8.2) ?_
    obtain ⟨j4, hj4⟩ : ∃ i : Nat, xs[k].d.tdiv 8 % 5 = (i : Nat) := ⟨(xs[k].d.tdiv 8 % 5).toNat, by omega⟩
    have hj4l : j4 < 5 := by omega
    refine x_val rfl rfl rfl (v_cut_to (s := sS) (j := j4) Try.underlying9 rfl (congrArg (fun z : Int => some (Value.int .i64 z)) hj4) (by show j4 ≤ 4; omega)) ?_
    refine x_val rfl rfl rfl (v_buildL (places := [(0, 1), (1, 1), (2, 1), (3, 2), (5, 1), (6, 1)]) Try.underlying27 zr27 (by kernel_rfl) rfl rfl) ?_
    have hru : (ruleOf xs[k]).cells = [Value.string (pickS (rtags (tagOf xs[k].a)) xs[k].b), .bool b35, .bool b39, .string (s01.extract 0 j1), .string (s02.extract 0 j2), .string (sC.extract 0 j3), .string (sS.extract 0 j4)] := by rw [hb35, hb39]; unfold Rl.cells ruleOf; dsimp only; rw [hj1, hj2, hj3, hj4]; simp only [Int.toNat_natCast]
    refine x_buildSliceL (cs := (ruleOf xs[k]).cells) rfl rfl rfl Try.underlying23 sz27 zr27 rfl rfl (by rw [hru]; rfl) ?_
    intro p61
    refine x_append (e := 27) [(p61, Obj.cells (ruleOf xs[k]).cells.toArray 27), (p24, Obj.cells ((rtags (tagOf xs[k].a)).map Value.string).toArray 9), (p5, Obj.cells [Value.int .i64 xs[k].a, .int .i64 xs[k].b, .int .i64 xs[k].c, .int .i64 xs[k].d].toArray 66)] (l2 := []) R (len := k) (xs := css.flatten) rfl rfl rfl rfl (by simp only [List.append_nil]; rfl) hrow Try.underlying23 ap27 rfl rfl (m := 1) (news := (ruleOf xs[k]).cells) (fun i hi => at_ownL (vs := (ruleOf xs[k]).cells) (.head _) (by rw [Nat.zero_add]; exact List.getElem?_eq_getElem hi)) rfl (by simp only [maxLen]; omega) (by omega) ?_
    intro R' hR'
    refine x_val rfl rfl rfl (v_assign rfl) ?_
    refine x_end ?_
    refine b_norm ?_
    refine t_norm ?_
    refine rg_text ?_
    refine x_val rfl rfl rfl (v_move rfl) ?_
    refine x_val rfl rfl rfl (v_addi rfl rfl rfl (by first | omega | (dsimp only; omega))) ?_
    refine x_val rfl rfl rfl (v_assign rfl) ?_
    refine x_end ?_
    have hT' := snocN (T := tyRl) (D := fun _ => False) (ws := w) (x := ruleOf xs[k]) hln hcl hrd hR' ⟨rfl, ruleOf_ok _⟩
    exact l_norm (k + 1, R') ⟨by dsimp only; omega, by dsimp only; omega, by dsimp only; rw [List.take_succ_eq_append_getElem (by omega), List.map_append]; exact hT'⟩ (by simp only; omega) (by repeat (first | exact Sub.nil | refine Sub.cons rfl ?_)) (fun _ h => h.less (by dsimp only; rw [List.append_nil]; exact List.sublist_append_right _ _) (fun _ h => h))
  · simp only [hb14, hb13, hb10, decide_eq_true_eq, decide_eq_false_iff_not, Bool.and_eq_true, Bool.or_eq_true, Bool.and_eq_false_iff, Bool.or_eq_false_iff, Bool.not_eq_true', Bool.not_eq_false', ne_eq, Decidable.not_not] at hc14
    have hkm : xs.take k = xs.take 8 := by rw [List.take_eq_take_iff]; omega
    refine w_exit ?_
    refine t_exit ?_
    refine t_exit ?_
    refine b_hit ?_
    refine t_norm ?_
    refine w_seq ?_
    refine rg_text ?_
    refine x_val rfl rfl rfl (v_move rfl) ?_
    refine x_val rfl rfl rfl (v_assign rfl) ?_
    refine x_end ?_
    refine t_norm ?_
    refine w_ret ?_
    refine ret1 rfl rfl (fun w' hm => ⟨_, rfl, hm.base (by simp), ?_⟩)
    rw [hkm] at hT hln
    exact (hT.keep (w' := w') (D' := fun _ => False) (fun k hk _ => hk.elim)).rd (e := 27) hm (fun p hp => hp) (fun _ h => h.elim) (fun p hp => hm.newer (by simp) hp) hln.symm

end Go.Proofs.Ytmihkbciilloaaa
