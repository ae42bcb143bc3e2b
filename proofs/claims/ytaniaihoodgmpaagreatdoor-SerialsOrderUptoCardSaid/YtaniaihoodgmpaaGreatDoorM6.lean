/- Of the proofs of YtaniaihoodgmpaaGreatDoor: Ue Xx Xp, put together. -/
import Derived.Test.YtaniaihoodgmpaaGreatDoorM5
import Derived.Lay
import Derived.LaidSub
import Derived.Lib.LaidTab
import Derived.Stop.LaidErr
import Derived.Deep.DeepHandedRow
import Derived.SevenTiedAt
import Derived.Test.YtaniaihoodgmpaaGreatDoorM2
import Derived.Test.YtaniaihoodgmpaaGreatDoorM1
import Derived.Test.YtaniaihoodgmpaaGreatDoorM3
import Derived.Test.YtaniaihoodgmpaaGreatDoorM4
namespace Go.Proofs.YtaniaihoodgmpaaGreatDoor
open Go.RowKit Go.PK
set_option linter.unusedVariables false
set_option linter.unusedSimpArgs false
theorem ap34 : (Tryz.prog.info? 34).map (fun j => (j.zero, j.size, j.bytes)) = some (some (.agg #[.int .i64 0, .int .i64 0, .int .i64 0, .bool false, .bool false, .string ⟨#[]⟩]), 6, 48) := by kernel_rfl
set_option maxHeartbeats 8000000 in
set_option maxRecDepth 100000 in
theorem lawOrder {v va vo : Value} {l : List Int} {ac : List ActD} {od : List UInt8} {D : Nat → Prop} (w : World) (hl : sliceRd tyI D w v l) (hac : sliceRd tyAct D w va ac) (hod : sliceRd tyB D w vo od) (hL : LD w) :
    Calls Tryz.prog 4 #[v, va, vo] w fun e w' => e = .returned (.bool (true)) ∧ Later w w' := by
  obtain ⟨A0, c0, rfl, hlc0, hmx0, -⟩ := id hl
  obtain ⟨AC, cC, rfl, -⟩ := id hac
  obtain ⟨AD, cD, rfl, -⟩ := id hod
  obtain ⟨p, hP⟩ : ∃ p, patL l = p := ⟨_, rfl⟩
  have hq : rightQ p := hP ▸ patL_right l
  refine enter (vs := [.slice A0 l.length c0, .slice AC ac.length cC, .slice AD od.length cD]) Tryz.func4 rfl Tryz.ntmps4 rfl ?_
  refine w_seq ?_
  refine rg_text ?_
  refine x_val rfl rfl rfl (v_assign rfl) ?_
  refine x_end ?_
  refine t_norm ?_
  refine w_seq ?_
  refine rg_text ?_
  refine x_callb rfl rfl rfl Tryz.func8 (by kernel_rfl) rfl (fun w1 hw1 => c_sanity w1 (hL.later (hw1.base (by simp)))) ?_
  intro b21 hb21
  obtain rfl : b21 = true := hb21
  refine x_val rfl rfl rfl (v_assign rfl) ?_
  refine x_end ?_
  refine t_norm ?_
  refine w_seq ?_
  refine rg_text ?_
  refine x_val rfl rfl rfl (v_move rfl) ?_
  refine x_call (R := fun v wa wb => ∃ v1 v2, v = .agg #[.int .i64 p.first, .int .i64 p.days, v1, v2] ∧ patRd (fun b => wa.heap.size ≤ b) wb p v1 v2) rfl rfl rfl Tryz.func9 (by kernel_rfl) rfl (fun w1 hw1 => by
    have h := c_pattern w1 (hl.keep (Kept.later (hw1.base (by simp))))
    rw [hP] at h
    exact h.mono fun e w2 ⟨v1, v2, h1, h2, h3⟩ => ⟨_, h1, h2, v1, v2, rfl, h3⟩) ?_
  intro v23 wa23 wb23 hm23 hl23 hR23
  obtain ⟨v1, v2, rfl, hp1, hp2, hpa, hpb⟩ := hR23
  obtain ⟨A1, c1, rfl, -⟩ := id hpa
  obtain ⟨A2, c2, rfl, -⟩ := id hpb
  refine x_alloc rfl rfl rfl zr26 ?_
  intro p8
  refine x_store0 [] rfl rfl rfl rfl sz26 rfl rfl ?_
  refine x_end ?_
  refine t_norm ?_
  refine w_seq ?_
  refine rg_text ?_
  refine x_val rfl rfl rfl (v_load_blk (e := 26) (fz := (0, 0)) (cs := ([Value.int .i64 p.first, Value.int .i64 p.days, Value.slice A1 p.lv.length c1, Value.slice A2 p.st.length c2]).toArray) Tryz.underlying26 rfl rfl (.head _) (by exact sz26)) ?_
  refine x_own (τ := Nat × RowS × RowS) (fun x => .pointer (some ⟨x.1, 0, none⟩)) (fun x => SerOK p [] x.2.1 x.2.2 none) (fun x => (x.1, Obj.cells (serC p x.2.1 x.2.2 none 0).toArray 61 (0, 0)) :: (rowO 85 none ++ (rowO 3 x.2.1 ++ (rowO 3 x.2.2 ++ [(p8, Obj.cells ([Value.int .i64 p.first, Value.int .i64 p.days, Value.slice A1 p.lv.length c1, Value.slice A2 p.st.length c2]).toArray 26 (0, 0))])))) rfl rfl rfl Tryz.func10 (by kernel_rfl) rfl (fun w1 hw1 => (c_New p w1 (⟨hp1, hp2, keep_new hpa hw1 (by repeat (first | exact List.Mem.head _ | apply List.Mem.tail)) hm23, keep_new hpb hw1 (by repeat (first | exact List.Mem.head _ | apply List.Mem.tail)) hm23⟩ : patRd (fun _ => True) w1 p (Value.slice A1 p.lv.length c1) (Value.slice A2 p.st.length c2)) hq (hL.later (hw1.base (by simp)))).mono fun e w2 ⟨bq, r1, r2, h1, h2, h3, h4⟩ => ⟨(bq, r1, r2), h1, h2, h3, (hw1.join2 h4).to (by simp [rowO, List.append_assoc]; rfl)⟩) ?_
  intro q hS0
  obtain ⟨bs, r1, r2⟩ := q
  dsimp only at hS0 ⊢
  refine x_val rfl rfl rfl (v_assign rfl) ?_
  refine x_end ?_
  refine t_norm ?_
  refine w_seq ?_
  refine rg_text ?_
  refine x_val rfl rfl rfl (v_assign rfl) ?_
  refine x_end ?_
  refine t_norm ?_
  refine w_seq ?_
  refine w_seq ?_
  refine rg_text ?_
  refine x_val rfl rfl rfl (v_assign rfl) ?_
  refine x_end ?_
  refine t_norm ?_
  refine w_block ?_
  refine w_loop (σ := Nat × List Ent × RowS × List ActD × RowS) (fun x => x.1 ≤ ac.length ∧ x.1 ≤ 20 ∧ Of p x.2.1 x.2.2.2.1 ∧ rowOK 4 x.2.2.1 x.2.1.length (entsC x.2.1) ∧ x.2.2.2.1.length ≤ x.1 ∧ rowOK 6 x.2.2.2.2 x.2.2.2.1.length (actsC x.2.2.2.1) ∧ ∀ a ∈ x.2.2.2.1, actIn a) (fun x => [(1, Value.slice AC ac.length cC), (2, Value.slice AD od.length cD), (7, Value.bool true), (8, Value.pointer (some ⟨p8, 0, none⟩)), (9, Value.pointer (some ⟨bs, 0, none⟩)), (10, rowV x.2.2.2.2 x.2.2.2.1.length), (11, Value.int .i64 (x.1 : Nat))]) (fun x => (bs, Obj.cells (serC p r1 r2 x.2.2.1 x.2.1.length).toArray 61 (0, 0)) :: (rowO 85 x.2.2.1 ++ (rowO 3 r1 ++ (rowO 3 r2 ++ ((p8, Obj.cells ([Value.int .i64 p.first, Value.int .i64 p.days, Value.slice A1 p.lv.length c1, Value.slice A2 p.st.length c2]).toArray 26 (0, 0)) :: rowO 34 x.2.2.2.2))))) (fun x => [(wb23, notOwn []), (w, fun _ => True)]) (fun x => 20 - x.1) ((0, [], none, [], none)) (⟨Nat.zero_le _, Nat.zero_le _, Of.nil p, rowOK_nil, Nat.le_refl _, rowOK_nil, (fun a ha => by cases ha)⟩) (l_start (by repeat (first | exact Sub.nil | refine Sub.cons rfl ?_)) (fun w1 h => h.to (by simp [rowO]))) ?_
  rintro ⟨k, es, R, gs, G⟩ ⟨hka, hk20, hOf, hR, hgl, hG, hgi⟩
  refine w_state ([(1, Value.slice AC ac.length cC), (2, Value.slice AD od.length cD), (7, Value.bool true), (8, Value.pointer (some ⟨p8, 0, none⟩)), (9, Value.pointer (some ⟨bs, 0, none⟩)), (10, rowV G gs.length), (11, Value.int .i64 (k : Nat))]) ((bs, Obj.cells (serC p r1 r2 R es.length).toArray 61 (0, 0)) :: (rowO 85 R ++ (rowO 3 r1 ++ (rowO 3 r2 ++ ((p8, Obj.cells ([Value.int .i64 p.first, Value.int .i64 p.days, Value.slice A1 p.lv.length c1, Value.slice A2 p.st.length c2]).toArray 26 (0, 0)) :: rowO 34 G))))) ([(wb23, notOwn []), (w, fun _ => True)]) ?_
  dsimp only at hka hk20 hOf hR hgl hG hgi
  have hel : es.length ≤ 20 := by have := hOf.perm.length_eq; have h2 := List.length_filterMap_le (entA p) gs; omega
  have hSk := hS0.with hR (fun x hx => (hOf.srt.2 x hx).in)
  refine w_seq ?_
  refine w_seq ?_
  refine rg_text ?_
  refine x_val rfl rfl rfl (v_move rfl) ?_
  refine x_val rfl rfl rfl (v_move rfl) ?_
  refine x_val rfl rfl rfl (v_len_slice Tryz.underlying23 rfl) ?_
  refine x_bool rfl rfl rfl (v_lss rfl rfl) ?_
  intro b29 hb29
  refine x_val rfl rfl rfl (v_move rfl) ?_
  refine x_if [] rfl rfl rfl rfl rfl (fun hg => by obtain ⟨hg0, _⟩ := hg; subst hg0; (try simp only [List.cons_append, List.nil_append, gvl_nil, gvl_t, gvl_f]); exact v_move rfl) ?_
  refine x_ifb [] rfl rfl rfl rfl rfl (fun hg => by obtain ⟨hg0, _⟩ := hg; subst hg0; (try simp only [List.cons_append, List.nil_append, gvl_nil, gvl_t, gvl_f]); exact v_lss rfl rfl) ?_
  intro b32 hb32
  refine x_bool rfl rfl rfl (v_and rfl rfl) ?_
  intro b33 hb33
  refine x_end ?_
  refine t_norm ?_
  refine w_cond rfl (fun hc33 => ?_) (fun hc33 => ?_)
  · simp only [hb33, hb32, hb29, decide_eq_true_eq, decide_eq_false_iff_not, Bool.and_eq_true, Bool.or_eq_true, Bool.and_eq_false_iff, Bool.or_eq_false_iff, Bool.not_eq_true', Bool.not_eq_false', ne_eq, Decidable.not_not] at hc33
    have hkl : k < ac.length := by omega
    obtain ⟨b0, o0, hA0, _, hca, hai⟩ := act_at hac hkl
    have hca' : ∀ j (hj : j < (actC ac[k]).length), At ((bs, Obj.cells (serC p r1 r2 R es.length).toArray 61 (0, 0)) :: (rowO 85 R ++ (rowO 3 r1 ++ (rowO 3 r2 ++ ((p8, Obj.cells ([Value.int .i64 p.first, Value.int .i64 p.days, Value.slice A1 p.lv.length c1, Value.slice A2 p.st.length c2]).toArray 26 (0, 0)) :: rowO 34 G))))) ([(wb23, notOwn []), (w, fun _ => True)]) b0 (o0 + k * 6 + j) (actC ac[k])[j] := fun j hj => at_ro (s := (w, fun _ => True)) (by simp) trivial (hca j hj)
    obtain ⟨es', cd, hst48⟩ : ∃ es' cd, stepA p es ac[k] = (es', cd) := ⟨_, _, rfl⟩
    refine w_skip ?_
    refine t_norm ?_
    refine w_seq ?_
    refine w_block ?_
    refine w_seq ?_
    refine rg_draw 11 [(true, 0), (true, 1), (true, 2), (true, 3), (true, 4), (true, 5), (true, 6), (true, 7), (true, 8), (true, 9), (true, 10)] (by kernel_rfl) (by kernel_rfl) ?_
    refine x_val rfl rfl rfl (v_move rfl) ?_
    refine x_val rfl rfl rfl (v_move rfl) ?_
    refine x_val rfl rfl rfl (v_indexAddr (j := k) Tryz.underlying23 sz34 (congrArg (fun A => some (Value.slice A ac.length cC)) hA0) rfl (by first | omega | (dsimp only; omega)) rfl) ?_
    refine x_val rfl rfl rfl (v_loadN (vs := actC ac[k]) Tryz.underlying34 rfl sz34 rfl (fun j hj => at_ro (s := (w, fun _ => True)) (by simp) trivial (hca j hj))) ?_
    refine x_val rfl rfl rfl (v_load_blk (e := 26) (fz := (0, 0)) (cs := ([Value.int .i64 p.first, Value.int .i64 p.days, Value.slice A1 p.lv.length c1, Value.slice A2 p.st.length c2]).toArray) Tryz.underlying26 rfl rfl (by repeat (first | exact List.Mem.head _ | apply List.Mem.tail | apply List.mem_append_right)) (by exact sz26)) ?_
    refine x_callv (v := .tuple #[.string (callT p ac[k]), .int .i64 (callD p ac[k])]) rfl rfl rfl Tryz.func12 (by kernel_rfl) rfl (fun w1 hw1 => c_Call p ac[k] w1 (⟨hp1, hp2, keep_new hpa hw1 (by repeat (first | exact List.Mem.head _ | apply List.Mem.tail)) hm23, keep_new hpb hw1 (by repeat (first | exact List.Mem.head _ | apply List.Mem.tail)) hm23⟩ : patRd (fun _ => True) w1 p (Value.slice A1 p.lv.length c1) (Value.slice A2 p.st.length c2)) hq hai) ?_
    refine x_val rfl rfl rfl (v_move rfl) ?_
    refine x_val rfl rfl rfl (v_extract rfl rfl) ?_
    refine x_val rfl rfl rfl (v_extract rfl rfl) ?_
    refine x_val rfl rfl rfl (v_assign rfl) ?_
    refine x_val rfl rfl rfl (v_assign rfl) ?_
    refine x_end ?_
    refine t_norm ?_
    refine w_seq ?_
    refine rg_text ?_
    refine x_val rfl rfl rfl (v_move rfl) ?_
    refine x_val rfl rfl rfl (v_move rfl) ?_
    refine x_val rfl rfl rfl (v_move rfl) ?_
    refine x_turnf (v := Value.int .i64 cd) (fun R' : RowS => rowOK 4 R' es'.length (entsC es')) (fun R' => (bs, Obj.cells (serC p r1 r2 R' es'.length).toArray 61 (0, 0)) :: (rowO 85 R' ++ (rowO 3 r1 ++ (rowO 3 r2 ++ ((p8, Obj.cells ([Value.int .i64 p.first, Value.int .i64 p.days, Value.slice A1 p.lv.length c1, Value.slice A2 p.st.length c2]).toArray 26 (0, 0)) :: rowO 34 G))))) rfl rfl Tryz.func13 (by kernel_rfl) rfl (fun w1 hw1 => by
      have h := c_Take (w0 := w) p es (callT p ac[k]) (callD p ac[k]) hw1 (by simp) hL hSk (by have := callT_sz hq (hai); omega) (callD_in p _) (by omega)
      rw [show takeQ p es (callT p ac[k]) (callD p ac[k]) = (es', cd) from hst48] at h
      exact h.mono fun e w2 ⟨R', h1, h2, h3⟩ => ⟨h1, R', h2, h3⟩) ?_
    intro R' hR'
    refine x_bool rfl rfl rfl (v_eql rfl rfl) ?_
    intro b49 hb49
    refine x_end ?_
    refine t_norm ?_
    refine w_cond rfl (fun hc49 => ?_) (fun hc49 => ?_)
    · have hcd : cd = 0 := of_decide_eq_true (hb49.symm.trans hc49)
      obtain ⟨xe, hx1, hx2, hx3⟩ := step_ok (p := p) (es := es) (a := ac[k]) (by rw [hst48]; exact hcd)
      rw [hst48] at hx3
      dsimp only at hx3
      have hOf' : Of p es' (gs ++ [ac[k]]) := by rw [hx3]; exact hOf.snoc hx1 hx2
      refine rg_text ?_
      refine x_val rfl rfl rfl (v_move rfl) ?_
      refine x_val rfl rfl rfl (v_move rfl) ?_
      refine x_val rfl rfl rfl (v_move rfl) ?_
      refine x_val rfl rfl rfl (v_indexAddr (j := k) Tryz.underlying23 sz34 (congrArg (fun A => some (Value.slice A ac.length cC)) hA0) rfl (by first | omega | (dsimp only; omega)) rfl) ?_
      refine x_val rfl rfl rfl (v_loadN (vs := actC ac[k]) Tryz.underlying34 rfl sz34 rfl (fun j hj => at_ro (s := (w, fun _ => True)) (by simp) trivial (hca j hj))) ?_
      refine x_buildSliceL (cs := actC ac[k]) rfl rfl rfl Tryz.underlying23 sz34 zr34 rfl rfl rfl ?_
      intro p55
      refine x_append (e := 34) ((p55, Obj.cells (actC ac[k]).toArray 34 (0, 0)) :: (bs, Obj.cells (serC p r1 r2 R' es'.length).toArray 61 (0, 0)) :: (rowO 85 R' ++ (rowO 3 r1 ++ (rowO 3 r2 ++ [(p8, Obj.cells ([Value.int .i64 p.first, Value.int .i64 p.days, Value.slice A1 p.lv.length c1, Value.slice A2 p.st.length c2]).toArray 26 (0, 0))])))) (l2 := []) G (len := gs.length) (xs := actsC gs) rfl rfl rfl rfl (by simp [List.append_assoc] <;> rfl) hG Tryz.underlying23 ap34 rfl rfl (m := 1) (news := actC ac[k]) (fun i hi => at_ownL (vs := actC ac[k]) (.head _) (by rw [Nat.zero_add]; exact List.getElem?_eq_getElem hi)) rfl (by simp only [maxLen]; omega) (by omega) ?_
      intro G' hG'
      refine x_val rfl rfl rfl (v_assign rfl) ?_
      refine x_end ?_
      refine b_norm ?_
      refine t_norm ?_
      refine rg_text ?_
      refine x_val rfl rfl rfl (v_move rfl) ?_
      refine x_val rfl rfl rfl (v_addi rfl rfl rfl (by first | omega | (dsimp only; omega))) ?_
      refine x_val rfl rfl rfl (v_assign rfl) ?_
      refine x_end ?_
      have eG : (gs ++ [ac[k]]).length = gs.length + 1 := by simp
      exact l_norm (x := (k, es, R, gs, G)) (μ := fun q : Nat × List Ent × RowS × List ActD × RowS => 20 - q.1) (k + 1, es', R', gs ++ [ac[k]], G') ⟨by dsimp only; omega, by dsimp only; omega, hOf', hR', by dsimp only; omega, by dsimp only; rw [eG, actsC_app]; exact hG', fun a ha => by rcases List.mem_append.1 ha with h | h; (· exact hgi a h); rw [List.mem_singleton.1 h]; exact hai⟩ (by simp only; omega) (by dsimp only; rw [eG]; exact (by repeat (first | exact Sub.nil | refine Sub.cons rfl ?_))) (fun w1 h => (h.to (by simp [List.append_assoc] : _ = (p55, Obj.cells (actC ac[k]).toArray 34 (0, 0)) :: ((bs, Obj.cells (serC p r1 r2 R' es'.length).toArray 61 (0, 0)) :: (rowO 85 R' ++ (rowO 3 r1 ++ (rowO 3 r2 ++ ((p8, Obj.cells ([Value.int .i64 p.first, Value.int .i64 p.days, Value.slice A1 p.lv.length c1, Value.slice A2 p.st.length c2]).toArray 26 (0, 0)) :: rowO 34 G'))))))).less (List.sublist_cons_self _ _) (fun _ h => h))
    · have hcd : ¬cd = 0 := of_decide_eq_false (hb49.symm.trans hc49)
      have hse := step_no (p := p) (es := es) (a := ac[k]) (by rw [hst48]; exact hcd)
      rw [hst48] at hse
      dsimp only at hse
      subst hse
      refine w_skip ?_
      refine b_norm ?_
      refine t_norm ?_
      refine rg_text ?_
      refine x_val rfl rfl rfl (v_move rfl) ?_
      refine x_val rfl rfl rfl (v_addi rfl rfl rfl (by first | omega | (dsimp only; omega))) ?_
      refine x_val rfl rfl rfl (v_assign rfl) ?_
      refine x_end ?_
      exact l_norm (x := (k, es', R, gs, G)) (μ := fun q : Nat × List Ent × RowS × List ActD × RowS => 20 - q.1) (k + 1, es', R', gs, G) ⟨by dsimp only; omega, by dsimp only; omega, hOf, hR', by dsimp only; omega, hG, hgi⟩ (by simp only; omega) (by repeat (first | exact Sub.nil | refine Sub.cons rfl ?_)) (fun _ h => h)
  · skip
    refine w_exit ?_
    refine t_exit ?_
    refine t_exit ?_
    refine b_hit ?_
    refine t_norm ?_
    refine w_seq ?_
    refine w_seq ?_
    refine rg_text ?_
    refine x_val rfl rfl rfl (v_assign rfl) ?_
    refine x_end ?_
    refine t_norm ?_
    refine w_block ?_
    refine w_loop (σ := Nat × List ActD × RowS) (fun x => 1 ≤ x.1 ∧ x.2.1.Perm gs ∧ rowOK 6 x.2.2 gs.length (actsC x.2.1)) (fun x => [(2, Value.slice AD od.length cD), (7, Value.bool true), (8, Value.pointer (some ⟨p8, 0, none⟩)), (9, Value.pointer (some ⟨bs, 0, none⟩)), (10, rowV x.2.2 gs.length), (14, Value.int .i64 (x.1 : Nat))]) (fun x => (bs, Obj.cells (serC p r1 r2 R es.length).toArray 61 (0, 0)) :: (rowO 85 R ++ (rowO 3 r1 ++ (rowO 3 r2 ++ ((p8, Obj.cells ([Value.int .i64 p.first, Value.int .i64 p.days, Value.slice A1 p.lv.length c1, Value.slice A2 p.st.length c2]).toArray 26 (0, 0)) :: rowO 34 x.2.2))))) (fun x => [(wb23, notOwn []), (w, fun _ => True)]) (fun x => gs.length - x.1) ((1, gs, G)) (⟨Nat.le_refl _, List.Perm.refl _, hG⟩) (l_start (by repeat (first | exact Sub.nil | refine Sub.cons rfl ?_)) (fun _ h => h)) ?_
    rintro ⟨i, g2, G2⟩ ⟨hi1, hgp, hG2⟩
    refine w_state ([(2, Value.slice AD od.length cD), (7, Value.bool true), (8, Value.pointer (some ⟨p8, 0, none⟩)), (9, Value.pointer (some ⟨bs, 0, none⟩)), (10, rowV G2 gs.length), (14, Value.int .i64 (i : Nat))]) ((bs, Obj.cells (serC p r1 r2 R es.length).toArray 61 (0, 0)) :: (rowO 85 R ++ (rowO 3 r1 ++ (rowO 3 r2 ++ ((p8, Obj.cells ([Value.int .i64 p.first, Value.int .i64 p.days, Value.slice A1 p.lv.length c1, Value.slice A2 p.st.length c2]).toArray 26 (0, 0)) :: rowO 34 G2))))) ([(wb23, notOwn []), (w, fun _ => True)]) ?_
    dsimp only at hi1 hgp hG2
    have hgl2 := hgp.length_eq
    refine w_seq ?_
    refine w_seq ?_
    refine rg_text ?_
    refine x_val rfl rfl rfl (v_move rfl) ?_
    refine x_val rfl rfl rfl (v_move rfl) ?_
    refine x_val rfl rfl rfl (v_len_slice Tryz.underlying23 rfl) ?_
    refine x_bool rfl rfl rfl (v_lss rfl rfl) ?_
    intro b60 hb60
    refine x_val rfl rfl rfl (v_move rfl) ?_
    refine x_if [] rfl rfl rfl rfl rfl (fun hg => by obtain ⟨hg0, _⟩ := hg; subst hg0; (try simp only [List.cons_append, List.nil_append, gvl_nil, gvl_t, gvl_f]); exact v_move rfl) ?_
    refine x_if [] rfl rfl rfl rfl rfl (fun hg => by obtain ⟨hg0, _⟩ := hg; subst hg0; (try simp only [List.cons_append, List.nil_append, gvl_nil, gvl_t, gvl_f]); exact v_len_slice Tryz.underlying45 rfl) ?_
    refine x_ifb [] rfl rfl rfl rfl rfl (fun hg => by obtain ⟨hg0, _⟩ := hg; subst hg0; (try simp only [List.cons_append, List.nil_append, gvl_nil, gvl_t, gvl_f]); exact v_gtr rfl rfl) ?_
    intro b64 hb64
    refine x_bool rfl rfl rfl (v_and rfl rfl) ?_
    intro b65 hb65
    refine x_end ?_
    refine t_norm ?_
    refine w_cond rfl (fun hc65 => ?_) (fun hc65 => ?_)
    · simp only [hb65, hb64, hb60, decide_eq_true_eq, decide_eq_false_iff_not, Bool.and_eq_true, Bool.or_eq_true, Bool.and_eq_false_iff, Bool.or_eq_false_iff, Bool.not_eq_true', Bool.not_eq_false', ne_eq, Decidable.not_not] at hc65
      have hil : i < gs.length := by omega
      have hod0 : 0 < od.length := by omega
      have hmo : i % od.length < od.length := Nat.mod_lt _ hod0
      obtain ⟨bo, oo, hAo, _, hco⟩ := b_at hod hmo
      have hj9 : ((od[i % od.length]).toNat % (i + 1)) < i + 1 := Nat.mod_lt _ (by omega)
      obtain ⟨jn, hjn⟩ : ∃ q, ((od[i % od.length]).toNat % (i + 1)) = q := ⟨_, rfl⟩
      rw [hjn] at hj9
      obtain ⟨bg, csg, cpg, hge, _⟩ := hG2.cell (j := 0) (by rw [actsC_len]; omega)
      subst hge
      have hcg : gs.length * 6 ≤ csg.length := by have h1 := hG2.2.2.2.1; have h2 := hG2.2.1; dsimp only at h1 h2; omega
      have hli : i < g2.length := by omega
      have hlj : jn < g2.length := by omega
      refine w_skip ?_
      refine t_norm ?_
      refine w_seq ?_
      refine w_block ?_
      refine w_seq ?_
      refine rg_text ?_
      refine x_val rfl rfl rfl (v_move rfl) ?_
      refine x_val rfl rfl rfl (v_move rfl) ?_
      refine x_val rfl rfl rfl (v_move rfl) ?_
      refine x_val rfl rfl rfl (v_len_slice Tryz.underlying45 rfl) ?_
      refine x_val (v := Value.int .i64 ((i % od.length : Nat) : Int)) rfl rfl rfl (v_remN rfl rfl (by omega)) ?_
      refine x_val rfl rfl rfl (v_indexAddr (j := i % od.length) Tryz.underlying45 sz5 (congrArg (fun A => some (Value.slice A od.length cD)) hAo) rfl (by first | omega | (dsimp only; omega)) rfl) ?_
      refine x_val rfl rfl rfl (v_load Tryz.underlying5 rfl rfl (at_ro (s := (w, fun _ => True)) (by simp) trivial (by rw [Nat.mul_one]; exact hco))) ?_
      refine x_val rfl rfl rfl (v_conv64 Tryz.underlying5 Tryz.underlying3 rfl (by have := (od[i % od.length]).toNat_lt; omega)) ?_
      refine x_val rfl rfl rfl (v_move rfl) ?_
      refine x_val rfl rfl rfl (v_addi (c := ((i + 1 : Nat) : Int)) rfl rfl (by omega) (by omega)) ?_
      refine x_val (v := Value.int .i64 ((jn : Nat) : Int)) rfl rfl rfl (by rw [← hjn]; exact v_remN rfl rfl (by omega)) ?_
      refine x_val rfl rfl rfl (v_assign rfl) ?_
      refine x_end ?_
      refine t_norm ?_
      refine rg_inv ([]) 16 (.flt 0 (.flt 1 (.flt 2 (.flt 3 (.flt 4 (.flt 5 (.flt 6 (.flt 8 (.flt 9 (.flt 10 (.gr 7 (.gr 11 (.flt 12 (.gr 13 (.flt 14 (.gr 15 .done .nil)) .nil)) .nil) (.gr 11 (.gr 7 (.flt 12 (.gr 13 (.flt 14 (.gr 15 .done .nil)) .nil)) .nil) .nil)))))))))))) (List.nil_sublist _) (by kernel_rfl) (by kernel_rfl) ?_
      refine j_val rfl rfl (v_move rfl) ?_
      refine j_val rfl rfl (v_move rfl) ?_
      refine j_val rfl rfl (v_move rfl) ?_
      refine j_val rfl rfl (v_move rfl) ?_
      refine j_val rfl rfl (v_move rfl) ?_
      refine j_val rfl rfl (v_move rfl) ?_
      refine j_val rfl rfl (v_indexAddr (j := jn) Tryz.underlying23 sz34 rfl rfl (by first | omega | (dsimp only; omega)) rfl) ?_
      refine j_val rfl rfl (v_move rfl) ?_
      refine j_val rfl rfl (v_move rfl) ?_
      refine j_val rfl rfl (v_indexAddr (j := i) Tryz.underlying23 sz34 rfl rfl (by first | omega | (dsimp only; omega)) rfl) ?_
      refine j_gr ?_ ?_
      · refine x_val rfl rfl rfl (v_loadN (vs := actC g2[jn]) Tryz.underlying34 rfl sz34 rfl (fun j hj => at_ownL (vs := csg) (by repeat (first | exact List.Mem.head _ | apply List.Mem.tail | apply List.mem_append_right)) (rowA_at hG2 hgl2 hlj hj))) ?_
        refine x_end ?_
        refine j_end (List.nil_sublist _) ?_
        refine j_gr ?_ j_nil
        refine x_val rfl rfl rfl (v_loadN (vs := actC g2[i]) Tryz.underlying34 rfl sz34 rfl (fun j hj => at_ownL (vs := csg) (by repeat (first | exact List.Mem.head _ | apply List.Mem.tail | apply List.mem_append_right)) (rowA_at hG2 hgl2 hli hj))) ?_
        refine x_end ?_
        refine j_end (List.nil_sublist _) ?_
        refine j_val rfl rfl (v_indexAddr (j := i) Tryz.underlying23 sz34 rfl rfl (by first | omega | (dsimp only; omega)) rfl) ?_
        refine j_gr ?_ j_nil
        refine x_store (cs := csg) (off := 0 + i * 6) (e := 34) (l2 := []) ((bs, Obj.cells (serC p r1 r2 R es.length).toArray 61 (0, 0)) :: (rowO 85 R ++ (rowO 3 r1 ++ (rowO 3 r2 ++ [(p8, Obj.cells ([Value.int .i64 p.first, Value.int .i64 p.days, Value.slice A1 p.lv.length c1, Value.slice A2 p.st.length c2]).toArray 26 (0, 0))])))) rfl rfl rfl (by simp [rowO, List.append_assoc]) sz34 rfl (by omega) ?_
        have hG3 := rowA_set (x := g2[jn]) hG2 hgl2 hil
        have hc3 : gs.length * 6 ≤ (List.take (0 + i * 6) csg ++ (Value.agg (actC g2[jn]).toArray).cells.toList ++ List.drop (0 + i * 6 + 6) csg).length := by have h1 := hG3.2.2.2.1; have h2 := hG3.2.1; dsimp only at h1 h2; omega
        refine x_end ?_
        refine j_end (List.nil_sublist _) ?_
        refine j_val rfl rfl (v_indexAddr (j := jn) Tryz.underlying23 sz34 rfl rfl (by first | omega | (dsimp only; omega)) rfl) ?_
        refine j_gr ?_ j_nil
        refine x_store (cs := (List.take (0 + i * 6) csg ++ (Value.agg (actC g2[jn]).toArray).cells.toList ++ List.drop (0 + i * 6 + 6) csg)) (off := 0 + jn * 6) (e := 34) (l2 := []) ((bs, Obj.cells (serC p r1 r2 R es.length).toArray 61 (0, 0)) :: (rowO 85 R ++ (rowO 3 r1 ++ (rowO 3 r2 ++ [(p8, Obj.cells ([Value.int .i64 p.first, Value.int .i64 p.days, Value.slice A1 p.lv.length c1, Value.slice A2 p.st.length c2]).toArray 26 (0, 0))])))) rfl rfl rfl rfl sz34 rfl (by omega) ?_
        have hG4 := rowA_set (k := jn) (x := g2[i]) hG3 (by rw [List.length_set]; exact hgl2) (by omega)
        refine x_end ?_
        refine j_end (List.nil_sublist _) ?_
        refine j_done ?_
        refine x_end ?_
        refine b_norm ?_
        refine t_norm ?_
        refine rg_text ?_
        refine x_val rfl rfl rfl (v_move rfl) ?_
        refine x_val rfl rfl rfl (v_addi rfl rfl rfl (by first | omega | (dsimp only; omega))) ?_
        refine x_val rfl rfl rfl (v_assign rfl) ?_
        refine x_end ?_
        exact l_norm (x := (i, g2, some (bg, csg, cpg))) (μ := fun q : Nat × List ActD × RowS => gs.length - q.1) (i + 1, (g2.set i g2[jn]).set jn g2[i], some (bg, (List.take (0 + jn * 6) (List.take (0 + i * 6) csg ++ (Value.agg (actC g2[jn]).toArray).cells.toList ++ List.drop (0 + i * 6 + 6) csg) ++ (Value.agg (actC g2[i]).toArray).cells.toList ++ List.drop (0 + jn * 6 + 6) (List.take (0 + i * 6) csg ++ (Value.agg (actC g2[jn]).toArray).cells.toList ++ List.drop (0 + i * 6 + 6) csg)), cpg)) ⟨by dsimp only; omega, (swap_perm hli hlj).trans hgp, hG4⟩ (by simp only; omega) (by repeat (first | exact Sub.nil | refine Sub.cons rfl ?_)) (fun _ h => h.to (by simp [rowO, List.append_assoc]))
      refine j_gr ?_ j_nil
      refine x_val rfl rfl rfl (v_loadN (vs := actC g2[i]) Tryz.underlying34 rfl sz34 rfl (fun j hj => at_ownL (vs := csg) (by repeat (first | exact List.Mem.head _ | apply List.Mem.tail | apply List.mem_append_right)) (rowA_at hG2 hgl2 hli hj))) ?_
      refine x_end ?_
      refine j_end (List.nil_sublist _) ?_
      refine j_gr ?_ j_nil
      refine x_val rfl rfl rfl (v_loadN (vs := actC g2[jn]) Tryz.underlying34 rfl sz34 rfl (fun j hj => at_ownL (vs := csg) (by repeat (first | exact List.Mem.head _ | apply List.Mem.tail | apply List.mem_append_right)) (rowA_at hG2 hgl2 hlj hj))) ?_
      refine x_end ?_
      refine j_end (List.nil_sublist _) ?_
      refine j_val rfl rfl (v_indexAddr (j := i) Tryz.underlying23 sz34 rfl rfl (by first | omega | (dsimp only; omega)) rfl) ?_
      refine j_gr ?_ j_nil
      refine x_store (cs := csg) (off := 0 + i * 6) (e := 34) (l2 := []) ((bs, Obj.cells (serC p r1 r2 R es.length).toArray 61 (0, 0)) :: (rowO 85 R ++ (rowO 3 r1 ++ (rowO 3 r2 ++ [(p8, Obj.cells ([Value.int .i64 p.first, Value.int .i64 p.days, Value.slice A1 p.lv.length c1, Value.slice A2 p.st.length c2]).toArray 26 (0, 0))])))) rfl rfl rfl (by simp [rowO, List.append_assoc]) sz34 rfl (by omega) ?_
      have hG3 := rowA_set (x := g2[jn]) hG2 hgl2 hil
      have hc3 : gs.length * 6 ≤ (List.take (0 + i * 6) csg ++ (Value.agg (actC g2[jn]).toArray).cells.toList ++ List.drop (0 + i * 6 + 6) csg).length := by have h1 := hG3.2.2.2.1; have h2 := hG3.2.1; dsimp only at h1 h2; omega
      refine x_end ?_
      refine j_end (List.nil_sublist _) ?_
      refine j_val rfl rfl (v_indexAddr (j := jn) Tryz.underlying23 sz34 rfl rfl (by first | omega | (dsimp only; omega)) rfl) ?_
      refine j_gr ?_ j_nil
      refine x_store (cs := (List.take (0 + i * 6) csg ++ (Value.agg (actC g2[jn]).toArray).cells.toList ++ List.drop (0 + i * 6 + 6) csg)) (off := 0 + jn * 6) (e := 34) (l2 := []) ((bs, Obj.cells (serC p r1 r2 R es.length).toArray 61 (0, 0)) :: (rowO 85 R ++ (rowO 3 r1 ++ (rowO 3 r2 ++ [(p8, Obj.cells ([Value.int .i64 p.first, Value.int .i64 p.days, Value.slice A1 p.lv.length c1, Value.slice A2 p.st.length c2]).toArray 26 (0, 0))])))) rfl rfl rfl rfl sz34 rfl (by omega) ?_
      have hG4 := rowA_set (k := jn) (x := g2[i]) hG3 (by rw [List.length_set]; exact hgl2) (by omega)
      refine x_end ?_
      refine j_end (List.nil_sublist _) ?_
      refine j_done ?_
      refine x_end ?_
      refine b_norm ?_
      refine t_norm ?_
      refine rg_text ?_
      refine x_val rfl rfl rfl (v_move rfl) ?_
      refine x_val rfl rfl rfl (v_addi rfl rfl rfl (by first | omega | (dsimp only; omega))) ?_
      refine x_val rfl rfl rfl (v_assign rfl) ?_
      refine x_end ?_
      exact l_norm (x := (i, g2, some (bg, csg, cpg))) (μ := fun q : Nat × List ActD × RowS => gs.length - q.1) (i + 1, (g2.set i g2[jn]).set jn g2[i], some (bg, (List.take (0 + jn * 6) (List.take (0 + i * 6) csg ++ (Value.agg (actC g2[jn]).toArray).cells.toList ++ List.drop (0 + i * 6 + 6) csg) ++ (Value.agg (actC g2[i]).toArray).cells.toList ++ List.drop (0 + jn * 6 + 6) (List.take (0 + i * 6) csg ++ (Value.agg (actC g2[jn]).toArray).cells.toList ++ List.drop (0 + i * 6 + 6) csg)), cpg)) ⟨by dsimp only; omega, (swap_perm hli hlj).trans hgp, hG4⟩ (by simp only; omega) (by repeat (first | exact Sub.nil | refine Sub.cons rfl ?_)) (fun _ h => h.to (by simp [rowO, List.append_assoc]))
    · skip
      refine w_exit ?_
      refine t_exit ?_
      refine t_exit ?_
      refine b_hit ?_
      refine t_norm ?_
      refine w_seq ?_
      refine rg_text ?_
      refine x_val rfl rfl rfl (v_load_blk (e := 26) (fz := (0, 0)) (cs := ([Value.int .i64 p.first, Value.int .i64 p.days, Value.slice A1 p.lv.length c1, Value.slice A2 p.st.length c2]).toArray) Tryz.underlying26 rfl rfl (by repeat (first | exact List.Mem.head _ | apply List.Mem.tail | apply List.mem_append_right)) (by exact sz26)) ?_
      refine x_own (τ := Nat × RowS × RowS) (fun x => .pointer (some ⟨x.1, 0, none⟩)) (fun x => SerOK p [] x.2.1 x.2.2 none) (fun x => (x.1, Obj.cells (serC p x.2.1 x.2.2 none 0).toArray 61 (0, 0)) :: (rowO 85 none ++ (rowO 3 x.2.1 ++ (rowO 3 x.2.2 ++ ((bs, Obj.cells (serC p r1 r2 R es.length).toArray 61 (0, 0)) :: (rowO 85 R ++ (rowO 3 r1 ++ (rowO 3 r2 ++ ((p8, Obj.cells ([Value.int .i64 p.first, Value.int .i64 p.days, Value.slice A1 p.lv.length c1, Value.slice A2 p.st.length c2]).toArray 26 (0, 0)) :: rowO 34 G2))))))))) rfl rfl rfl Tryz.func10 (by kernel_rfl) rfl (fun w1 hw1 => (c_New p w1 (⟨hp1, hp2, keep_new hpa hw1 (by repeat (first | exact List.Mem.head _ | apply List.Mem.tail)) hm23, keep_new hpb hw1 (by repeat (first | exact List.Mem.head _ | apply List.Mem.tail)) hm23⟩ : patRd (fun _ => True) w1 p (Value.slice A1 p.lv.length c1) (Value.slice A2 p.st.length c2)) hq (hL.later (hw1.base (by simp)))).mono fun e w2 ⟨bq, r1, r2, h1, h2, h3, h4⟩ => ⟨(bq, r1, r2), h1, h2, h3, (hw1.join2 h4).to (by simp [rowO, List.append_assoc])⟩) ?_
      intro q hT0
      obtain ⟨bt, q1, q2⟩ := q
      dsimp only at hT0 ⊢
      refine x_val rfl rfl rfl (v_assign rfl) ?_
      refine x_end ?_
      refine t_norm ?_
      refine w_seq ?_
      refine w_seq ?_
      refine rg_text ?_
      refine x_val rfl rfl rfl (v_move rfl) ?_
      refine x_val rfl rfl rfl (v_len_slice Tryz.underlying23 rfl) ?_
      refine x_val rfl rfl rfl (v_move rfl) ?_
      refine x_end ?_
      refine t_norm ?_
      refine w_block ?_
      refine w_loop (σ := Nat × List Ent × RowS) (fun x => x.1 ≤ gs.length ∧ Of p x.2.1 (g2.take x.1) ∧ rowOK 4 x.2.2 x.2.1.length (entsC x.2.1)) (fun x => [(7, Value.bool true), (8, Value.pointer (some ⟨p8, 0, none⟩)), (9, Value.pointer (some ⟨bs, 0, none⟩)), (16, Value.pointer (some ⟨bt, 0, none⟩)), (95, rowV G2 gs.length), (96, Value.int .i64 (gs.length : Nat)), (97, Value.int .i64 (x.1 : Nat))]) (fun x => (bt, Obj.cells (serC p q1 q2 x.2.2 x.2.1.length).toArray 61 (0, 0)) :: (rowO 85 x.2.2 ++ (rowO 3 q1 ++ (rowO 3 q2 ++ ((bs, Obj.cells (serC p r1 r2 R es.length).toArray 61 (0, 0)) :: (rowO 85 R ++ (rowO 3 r1 ++ (rowO 3 r2 ++ ((p8, Obj.cells ([Value.int .i64 p.first, Value.int .i64 p.days, Value.slice A1 p.lv.length c1, Value.slice A2 p.st.length c2]).toArray 26 (0, 0)) :: rowO 34 G2))))))))) (fun x => [(wb23, notOwn []), (w, fun _ => True)]) (fun x => gs.length - x.1) ((0, [], none)) (⟨Nat.zero_le _, Of.nil p, rowOK_nil⟩) (l_start (by repeat (first | exact Sub.nil | refine Sub.cons rfl ?_)) (fun w1 h => h)) ?_
      rintro ⟨m, e3, R3⟩ ⟨hm, hOf3, hR3⟩
      refine w_state ([(7, Value.bool true), (8, Value.pointer (some ⟨p8, 0, none⟩)), (9, Value.pointer (some ⟨bs, 0, none⟩)), (16, Value.pointer (some ⟨bt, 0, none⟩)), (95, rowV G2 gs.length), (96, Value.int .i64 (gs.length : Nat)), (97, Value.int .i64 (m : Nat))]) ((bt, Obj.cells (serC p q1 q2 R3 e3.length).toArray 61 (0, 0)) :: (rowO 85 R3 ++ (rowO 3 q1 ++ (rowO 3 q2 ++ ((bs, Obj.cells (serC p r1 r2 R es.length).toArray 61 (0, 0)) :: (rowO 85 R ++ (rowO 3 r1 ++ (rowO 3 r2 ++ ((p8, Obj.cells ([Value.int .i64 p.first, Value.int .i64 p.days, Value.slice A1 p.lv.length c1, Value.slice A2 p.st.length c2]).toArray 26 (0, 0)) :: rowO 34 G2))))))))) ([(wb23, notOwn []), (w, fun _ => True)]) ?_
      dsimp only at hm hOf3 hR3
      have hel3 : e3.length ≤ 20 := by have := hOf3.perm.length_eq; have h2 := List.length_filterMap_le (entA p) (g2.take m); rw [List.length_take] at h2; omega
      have hSt := hT0.with hR3 (fun x hx => (hOf3.srt.2 x hx).in)
      refine w_seq ?_
      refine rg_text ?_
      refine x_bool rfl rfl rfl (v_lss rfl rfl) ?_
      intro b98 hb98
      refine x_end ?_
      refine t_norm ?_
      refine w_seq ?_
      refine w_cond rfl (fun hc98 => ?_) (fun hc98 => ?_)
      · simp only [hb98, decide_eq_true_eq, decide_eq_false_iff_not, Bool.and_eq_true, Bool.or_eq_true, Bool.and_eq_false_iff, Bool.or_eq_false_iff, Bool.not_eq_true', Bool.not_eq_false', ne_eq, Decidable.not_not] at hc98
        have hml : m < g2.length := by omega
        obtain ⟨xe, hx1, hx2, hx3⟩ := hOf.next hgp hml hOf3
        have hai := hgi _ (hgp.subset (List.getElem_mem hml))
        obtain ⟨bg, csg, cpg, hge, _⟩ := hG2.cell (j := 0) (by rw [actsC_len]; omega)
        have hst110 := step_do hx1 hx2
        have hst116 := step_twice hx1 (ins_meets (es := e3) hx3)
        have hOf4 := hOf3.snoc hx1 hx2
        rw [List.take_append_getElem hml] at hOf4
        have hel4 : (insE e3 xe).length ≤ 21 := by rw [insE_len]; omega
        refine w_skip ?_
        refine t_norm ?_
        refine w_seq ?_
        refine w_block ?_
        refine w_seq ?_
        refine rg_text ?_
        refine x_val rfl rfl rfl (v_indexAddr (j := m) Tryz.underlying23 sz34 (congrArg (fun q => some (rowV q gs.length)) hge) rfl (by first | omega | (dsimp only; omega)) rfl) ?_
        refine x_val rfl rfl rfl (v_loadN (vs := actC g2[m]) Tryz.underlying34 rfl sz34 rfl (fun j hj => at_ownL (vs := csg) (by rw [hge]; repeat (first | exact List.Mem.head _ | apply List.Mem.tail | apply List.mem_append_right)) (rowA_at (hge ▸ hG2) hgl2 hml hj))) ?_
        refine x_alloc rfl rfl rfl zr34 ?_
        intro p18
        refine x_store0 [] rfl rfl rfl rfl sz34 rfl rfl ?_
        refine x_end ?_
        refine t_norm ?_
        refine w_seq ?_
        refine rg_text ?_
        refine x_val rfl rfl rfl (v_load_blk (e := 34) (fz := (0, 0)) (cs := (actC g2[m]).toArray) Tryz.underlying34 rfl rfl (.head _) (by exact sz34)) ?_
        refine x_val rfl rfl rfl (v_load_blk (e := 26) (fz := (0, 0)) (cs := ([Value.int .i64 p.first, Value.int .i64 p.days, Value.slice A1 p.lv.length c1, Value.slice A2 p.st.length c2]).toArray) Tryz.underlying26 rfl rfl (by repeat (first | exact List.Mem.head _ | apply List.Mem.tail | apply List.mem_append_right)) (by exact sz26)) ?_
        refine x_callv (v := .tuple #[.string (callT p g2[m]), .int .i64 (callD p g2[m])]) rfl rfl rfl Tryz.func12 (by kernel_rfl) rfl (fun w1 hw1 => c_Call p g2[m] w1 (⟨hp1, hp2, keep_new hpa hw1 (by repeat (first | exact List.Mem.head _ | apply List.Mem.tail)) hm23, keep_new hpb hw1 (by repeat (first | exact List.Mem.head _ | apply List.Mem.tail)) hm23⟩ : patRd (fun _ => True) w1 p (Value.slice A1 p.lv.length c1) (Value.slice A2 p.st.length c2)) hq hai) ?_
        refine x_val rfl rfl rfl (v_move rfl) ?_
        refine x_val rfl rfl rfl (v_extract rfl rfl) ?_
        refine x_val rfl rfl rfl (v_extract rfl rfl) ?_
        refine x_val rfl rfl rfl (v_assign rfl) ?_
        refine x_val rfl rfl rfl (v_assign rfl) ?_
        refine x_end ?_
        refine t_norm ?_
        refine w_seq ?_
        refine rg_text ?_
        refine x_val rfl rfl rfl (v_move rfl) ?_
        refine x_val rfl rfl rfl (v_move rfl) ?_
        refine x_val rfl rfl rfl (v_move rfl) ?_
        refine x_mem (own' := (bt, Obj.cells (serC p q1 q2 R3 e3.length).toArray 61 (0, 0)) :: (rowO 85 R3 ++ (rowO 3 q1 ++ (rowO 3 q2 ++ (((bs, Obj.cells (serC p r1 r2 R es.length).toArray 61 (0, 0)) :: (rowO 85 R ++ (rowO 3 r1 ++ (rowO 3 r2 ++ ((p8, Obj.cells ([Value.int .i64 p.first, Value.int .i64 p.days, Value.slice A1 p.lv.length c1, Value.slice A2 p.st.length c2]).toArray 26 (0, 0)) :: rowO 34 G2))))) ++ [(p18, Obj.cells (actC g2[m]).toArray 34 (0, 0))]))))) (fun w1 h => (h.perm (List.perm_append_comm (l₁ := [(p18, Obj.cells (actC g2[m]).toArray 34 (0, 0))]) (l₂ := (bt, Obj.cells (serC p q1 q2 R3 e3.length).toArray 61 (0, 0)) :: (rowO 85 R3 ++ (rowO 3 q1 ++ (rowO 3 q2 ++ ((bs, Obj.cells (serC p r1 r2 R es.length).toArray 61 (0, 0)) :: (rowO 85 R ++ (rowO 3 r1 ++ (rowO 3 r2 ++ ((p8, Obj.cells ([Value.int .i64 p.first, Value.int .i64 p.days, Value.slice A1 p.lv.length c1, Value.slice A2 p.st.length c2]).toArray 26 (0, 0)) :: rowO 34 G2))))))))))).to (by simp [List.append_assoc])) ?_
        refine x_turnf (v := Value.int .i64 0) (fun R' : RowS => rowOK 4 R' (insE e3 xe).length (entsC (insE e3 xe))) (fun R' => (bt, Obj.cells (serC p q1 q2 R' (insE e3 xe).length).toArray 61 (0, 0)) :: (rowO 85 R' ++ (rowO 3 q1 ++ (rowO 3 q2 ++ (((bs, Obj.cells (serC p r1 r2 R es.length).toArray 61 (0, 0)) :: (rowO 85 R ++ (rowO 3 r1 ++ (rowO 3 r2 ++ ((p8, Obj.cells ([Value.int .i64 p.first, Value.int .i64 p.days, Value.slice A1 p.lv.length c1, Value.slice A2 p.st.length c2]).toArray 26 (0, 0)) :: rowO 34 G2))))) ++ [(p18, Obj.cells (actC g2[m]).toArray 34 (0, 0))]))))) rfl rfl Tryz.func13 (by kernel_rfl) rfl (fun w1 hw1 => by
          have h := c_Take (w0 := w) p e3 (callT p g2[m]) (callD p g2[m]) hw1 (by simp) hL hSt (by have := callT_sz hq (hai); omega) (callD_in p _) (by omega)
          rw [show takeQ p e3 (callT p g2[m]) (callD p g2[m]) = ((insE e3 xe), 0) from hst110] at h
          exact h.mono fun e w2 ⟨R', h1, h2, h3⟩ => ⟨h1, R', h2, h3⟩) ?_
        intro R' hR'
        have hSu := hT0.with hR' (fun x hx => (hOf4.srt.2 x hx).in)
        refine x_bool rfl rfl rfl (v_neq rfl rfl) ?_
        intro b111 hb111
        obtain rfl : b111 = false := hb111.trans (decide_eq_false (fun h => h rfl))
        refine x_val rfl rfl rfl (v_move rfl) ?_
        refine x_valg rfl rfl rfl rfl rfl (v_move rfl) ?_
        refine x_valg rfl rfl rfl rfl rfl (v_move rfl) ?_
        refine x_valg rfl rfl rfl rfl rfl (v_move rfl) ?_
        refine x_turng (v := Value.int .i64 22) (fun R' : RowS => rowOK 4 R' (insE e3 xe).length (entsC (insE e3 xe))) (fun R' => (bt, Obj.cells (serC p q1 q2 R' (insE e3 xe).length).toArray 61 (0, 0)) :: (rowO 85 R' ++ (rowO 3 q1 ++ (rowO 3 q2 ++ (((bs, Obj.cells (serC p r1 r2 R es.length).toArray 61 (0, 0)) :: (rowO 85 R ++ (rowO 3 r1 ++ (rowO 3 r2 ++ ((p8, Obj.cells ([Value.int .i64 p.first, Value.int .i64 p.days, Value.slice A1 p.lv.length c1, Value.slice A2 p.st.length c2]).toArray 26 (0, 0)) :: rowO 34 G2))))) ++ [(p18, Obj.cells (actC g2[m]).toArray 34 (0, 0))]))))) rfl rfl rfl rfl Tryz.func13 (by kernel_rfl) rfl (fun w1 hw1 => by
          have h := c_Take (w0 := w) p (insE e3 xe) (callT p g2[m]) (callD p g2[m]) hw1 (by simp) hL hSu (by have := callT_sz hq (hai); omega) (callD_in p _) (by omega)
          rw [show takeQ p (insE e3 xe) (callT p g2[m]) (callD p g2[m]) = ((insE e3 xe), 22) from hst116] at h
          exact h.mono fun e w2 ⟨R', h1, h2, h3⟩ => ⟨h1, R', h2, h3⟩) ?_
        intro R4 hR4
        refine x_boolg rfl rfl rfl rfl rfl (v_neq rfl rfl) ?_
        intro b117 hb117
        obtain rfl : b117 = false := hb117.trans (decide_eq_false (fun h => h rfl))
        refine x_bool rfl rfl rfl (v_or rfl rfl) ?_
        intro b118 hb118
        obtain rfl : b118 = false := hb118
        refine x_end ?_
        refine t_norm ?_
        refine w_cond rfl (fun hc118 => ?_) (fun hc118 => ?_)
        · cases hc118
        · skip
          refine w_skip ?_
          refine b_norm ?_
          refine t_norm ?_
          refine rg_text ?_
          refine x_val rfl rfl rfl (v_addi rfl rfl rfl (by first | omega | (dsimp only; omega))) ?_
          refine x_val rfl rfl rfl (v_move rfl) ?_
          refine x_end ?_
          exact l_norm (x := (m, e3, R3)) (μ := fun q : Nat × List Ent × RowS => gs.length - q.1) (m + 1, insE e3 xe, R4) ⟨by dsimp only; omega, hOf4, hR4⟩ (by simp only; omega) (by repeat (first | exact Sub.nil | refine Sub.cons rfl ?_)) (fun w1 h => ((h.to (by simp [List.append_assoc])).perm (List.perm_append_comm (l₁ := (bt, Obj.cells (serC p q1 q2 R4 (insE e3 xe).length).toArray 61 (0, 0)) :: (rowO 85 R4 ++ (rowO 3 q1 ++ (rowO 3 q2 ++ ((bs, Obj.cells (serC p r1 r2 R es.length).toArray 61 (0, 0)) :: (rowO 85 R ++ (rowO 3 r1 ++ (rowO 3 r2 ++ ((p8, Obj.cells ([Value.int .i64 p.first, Value.int .i64 p.days, Value.slice A1 p.lv.length c1, Value.slice A2 p.st.length c2]).toArray 26 (0, 0)) :: rowO 34 G2))))))))) (l₂ := [(p18, Obj.cells (actC g2[m]).toArray 34 (0, 0))]))).less (List.sublist_cons_self _ _) (fun _ h => h))
      · simp only [hb98, decide_eq_true_eq, decide_eq_false_iff_not, Bool.and_eq_true, Bool.or_eq_true, Bool.and_eq_false_iff, Bool.or_eq_false_iff, Bool.not_eq_true', Bool.not_eq_false', ne_eq, Decidable.not_not] at hc98
        obtain rfl : m = gs.length := by omega
        rw [← hgl2, List.take_length] at hOf3
        have hsame := hOf.same hgp hOf3
        subst hsame
        refine w_exit ?_
        refine t_exit ?_
        refine t_exit ?_
        refine b_hit ?_
        refine t_norm ?_
        refine w_seq ?_
        refine rg_text ?_
        refine x_val rfl rfl rfl (v_move rfl) ?_
        refine x_val rfl rfl rfl (v_move rfl) ?_
        refine x_valg rfl rfl rfl rfl rfl (v_move rfl) ?_
        refine x_callvg (v := Value.string (encQ p e3)) rfl rfl rfl rfl rfl Tryz.func21 (by kernel_rfl) rfl (fun w1 hw1 => c_Enc p e3 w1 (hSt.rd (e := 61) (e1 := 3) (e2 := 85) hw1 (by repeat (first | exact List.Mem.head _ | apply List.Mem.tail | apply List.mem_append_right)) (fun q hq => by repeat (first | exact List.mem_append_left _ hq | exact hq | apply List.mem_append_right | apply List.Mem.tail)) (fun q hq => by repeat (first | exact List.mem_append_left _ hq | exact hq | apply List.mem_append_right | apply List.Mem.tail)) (fun q hq => by repeat (first | exact List.mem_append_left _ hq | exact hq | apply List.mem_append_right | apply List.Mem.tail))) (by omega) (hL.later (hw1.base (by simp)))) ?_
        refine x_valg rfl rfl rfl rfl rfl (v_move rfl) ?_
        refine x_callvg (v := Value.string (encQ p e3)) rfl rfl rfl rfl rfl Tryz.func21 (by kernel_rfl) rfl (fun w1 hw1 => c_Enc p e3 w1 (hSk.rd (e := 61) (e1 := 3) (e2 := 85) hw1 (by repeat (first | exact List.Mem.head _ | apply List.Mem.tail | apply List.mem_append_right)) (fun q hq => by repeat (first | exact List.mem_append_left _ hq | exact hq | apply List.mem_append_right | apply List.Mem.tail)) (fun q hq => by repeat (first | exact List.mem_append_left _ hq | exact hq | apply List.mem_append_right | apply List.Mem.tail)) (fun q hq => by repeat (first | exact List.mem_append_left _ hq | exact hq | apply List.mem_append_right | apply List.Mem.tail))) (by omega) (hL.later (hw1.base (by simp)))) ?_
        refine x_boolg rfl rfl rfl rfl rfl (v_seql rfl rfl) ?_
        intro b126 hb126
        obtain rfl : b126 = true := hb126.trans (decide_eq_true rfl)
        refine x_bool rfl rfl rfl (v_and rfl rfl) ?_
        intro b127 hb127
        obtain rfl : b127 = true := hb127
        refine x_val rfl rfl rfl (v_move rfl) ?_
        refine x_valg rfl rfl rfl rfl rfl (v_move rfl) ?_
        refine x_call_g (R := fun v wa wb => sliceRd tyIss (fun b => wa.heap.size ≤ b) wb v (heldP p e3)) rfl rfl rfl rfl rfl Tryz.func19 (by kernel_rfl) rfl (fun w1 hw1 => c_Held p e3 w1 (hSt.rd (e := 61) (e1 := 3) (e2 := 85) hw1 (by repeat (first | exact List.Mem.head _ | apply List.Mem.tail | apply List.mem_append_right)) (fun q hq => by repeat (first | exact List.mem_append_left _ hq | exact hq | apply List.mem_append_right | apply List.Mem.tail)) (fun q hq => by repeat (first | exact List.mem_append_left _ hq | exact hq | apply List.mem_append_right | apply List.Mem.tail)) (fun q hq => by repeat (first | exact List.mem_append_left _ hq | exact hq | apply List.mem_append_right | apply List.Mem.tail))) (fun _ => hq) hOf.srt.2 (by omega)) ?_
        intro v130 wa130 wb130 hm130 hl130 hR130
        obtain ⟨Aq130, cq130, rfl, -⟩ := id hR130
        refine x_valg rfl rfl rfl rfl rfl (v_move rfl) ?_
        refine x_call_g (R := fun v wa wb => sliceRd tyIss (fun b => wa.heap.size ≤ b) wb v (heldP p e3)) rfl rfl rfl rfl rfl Tryz.func19 (by kernel_rfl) rfl (fun w1 hw1 => c_Held p e3 w1 (hSk.rd (e := 61) (e1 := 3) (e2 := 85) hw1 (by repeat (first | exact List.Mem.head _ | apply List.Mem.tail | apply List.mem_append_right)) (fun q hq => by repeat (first | exact List.mem_append_left _ hq | exact hq | apply List.mem_append_right | apply List.Mem.tail)) (fun q hq => by repeat (first | exact List.mem_append_left _ hq | exact hq | apply List.mem_append_right | apply List.Mem.tail)) (fun q hq => by repeat (first | exact List.mem_append_left _ hq | exact hq | apply List.mem_append_right | apply List.Mem.tail))) (fun _ => hq) hOf.srt.2 (by omega)) ?_
        intro v132 wa132 wb132 hm132 hl132 hR132
        obtain ⟨Aq132, cq132, rfl, -⟩ := id hR132
        refine x_callbg rfl rfl rfl rfl rfl Tryz.func16 (by kernel_rfl) rfl (fun w1 hw1 => c_SameI w1 (keep_new hR130 hw1 (by repeat (first | exact List.Mem.head _ | apply List.Mem.tail | apply List.mem_append_right)) hm130) (keep_new hR132 hw1 (.head _) hm132)) ?_
        intro b133 hb133
        obtain rfl : b133 = true := hb133.trans (decide_eq_true rfl)
        refine x_bool rfl rfl rfl (v_and rfl rfl) ?_
        intro b134 hb134
        obtain rfl : b134 = true := hb134
        refine x_val rfl rfl rfl (v_assign rfl) ?_
        refine x_end ?_
        refine t_norm ?_
        refine w_ret ?_
        exact ret1 rfl rfl (fun w' hm => ⟨rfl, hm.base (by simp)⟩)

end Go.Proofs.YtaniaihoodgmpaaGreatDoor

namespace Go.Proofs.YtaniaihoodgmpaaGreatDoor
open Go.RowKit Go.PK
set_option linter.unusedVariables false
set_option linter.unusedSimpArgs false

def laidL : List (String × DataW Unit) := [("math/bits.deBruijn32tab", Rows.laid_math_bits_deBruijn32tab), ("math/bits.deBruijn64tab", Rows.laid_math_bits_deBruijn64tab), ("internal/strconv.uint64pow10", Rows.laid_internal_strconv_uint64pow10), ("unicode/utf8.acceptRanges", Rows.laid_unicode_utf8_acceptRanges), ("strconv.ErrRange", Rows.laid_strconv_ErrRange), ("strconv.ErrSyntax", Rows.laid_strconv_ErrSyntax), ("unicode/utf8.first", Rows.laid_unicode_utf8_first)]
theorem noHandle {W : World} (h : laidMetH Tryz.prog laidL W) : laidMet Tryz.prog laidL W := by
  have h1 := (laidMetH_iff.1 h).1
  rwa [show (laidL.filter fun x => x.2.handleName?.isNone) = laidL from by kernel_rfl] at h1
theorem laid_tab {W : World} (h : laidMet Tryz.prog laidL W) : Lib.TabIs Tryz.prog W "internal/strconv.uint64pow10" .u64 Lib.pow10Tab := by
  have h1 := h.filter fun x => x.1 == "internal/strconv.uint64pow10"
  have e : (laidL.filter fun x => x.1 == "internal/strconv.uint64pow10") = [("internal/strconv.uint64pow10", Lib.tabData .u64 Lib.pow10Tab)] := by kernel_rfl
  rw [e] at h1
  exact Lib.tabIs_of_head (g := 3) (t := 194) (e := 107) (n := 20) (by kernel_rfl) (by kernel_rfl) (by kernel_rfl) (by kernel_rfl) (by kernel_rfl) (by kernel_rfl) h1
theorem star : "*" ++ "errors.errorString" = "*errors.errorString" := by decide
theorem row104 (u : TypeId) (h : Tryz.prog.typeName? 3 u = some "*errors.errorString") : u = 190 :=
  typeName_ptr_named (nm := "errors.errorString") (by rw [star]; kernel_rfl) (by kernel_rfl) (by decide) u (by rw [star]; exact h)
theorem laid_syn {W : World} (h : laidMet Tryz.prog laidL W) : ∃ tp p, W.var? Tryz.prog "strconv.ErrSyntax" = some #[.iface tp p] := by
  have h1 := h.filter fun x => x.1 == "strconv.ErrSyntax"
  have e : (laidL.filter fun x => x.1 == "strconv.ErrSyntax") = [("strconv.ErrSyntax", .iface "*errors.errorString" (.ptr (.agg [.lit (.string [105, 110, 118, 97, 108, 105, 100, 32, 115, 121, 110, 116, 97, 120])])))] := by kernel_rfl
  rw [e] at h1
  obtain ⟨a0, s0, hv0, _⟩ := laid_sentinel (g := 1) (ti := 112) (tp := 190) (te := 192) (ts := 9) h1 (by kernel_rfl) (by kernel_rfl) Tryz.underlying112 row104 Tryz.underlying190 Tryz.underlying192 rfl rfl Tryz.underlying9 (by kernel_rfl) (by kernel_rfl)
  exact ⟨_, _, hv0⟩
theorem laid_rng {W : World} (h : laidMet Tryz.prog laidL W) : ∃ tp p, W.var? Tryz.prog "strconv.ErrRange" = some #[.iface tp p] := by
  have h1 := h.filter fun x => x.1 == "strconv.ErrRange"
  have e : (laidL.filter fun x => x.1 == "strconv.ErrRange") = [("strconv.ErrRange", .iface "*errors.errorString" (.ptr (.agg [.lit (.string [118, 97, 108, 117, 101, 32, 111, 117, 116, 32, 111, 102, 32, 114, 97, 110, 103, 101])])))] := by kernel_rfl
  rw [e] at h1
  obtain ⟨a0, s0, hv0, _⟩ := laid_sentinel (g := 2) (ti := 112) (tp := 190) (te := 192) (ts := 9) h1 (by kernel_rfl) (by kernel_rfl) Tryz.underlying112 row104 Tryz.underlying190 Tryz.underlying192 rfl rfl Tryz.underlying9 (by kernel_rfl) (by kernel_rfl)
  exact ⟨_, _, hv0⟩

theorem ld_of {W : World} (h : laidMetH Tryz.prog laidL W) (hS : W.ShapedOpen Tryz.prog) : LD W := ⟨laid_tab (noHandle h), Tryz.laysM146.s1_3 W hS, laid_syn (noHandle h), laid_rng (noHandle h)⟩
theorem laid_met (os : Os) (args : Array Value) : laidMet Tryz.prog laidL ((World.laidAll Tryz.prog os laidL).forCall (fun _ _ => 0) ⟨#[], args, []⟩).memory :=
  laidMet_laidAll args (by kernel_rfl) (by kernel_rfl)
theorem bulk_one {H : Type} (d : DataW H) : 1 ≤ Rows.uptoBulk d := by
  cases d with
  | lit l => cases l <;> simp [Rows.uptoBulk]
  | nil => simp [Rows.uptoBulk]
  | ptr d => simp [Rows.uptoBulk]
  | slice elems spare => simp [Rows.uptoBulk]
  | agg parts => simp [Rows.uptoBulk]
  | iface t d => simp [Rows.uptoBulk]
  | map entries => simp [Rows.uptoBulk]
  | held h => simp [Rows.uptoBulk]
def meas (H : Type) : Meas H := ⟨Rows.uptoBulk, Rows.uptoBulkAll, fun _ => by simp [Rows.uptoBulk], fun _ _ => by simp [Rows.uptoBulk], fun _ => by simp [Rows.uptoBulk], fun _ _ => by simp [Rows.uptoBulkAll], bulk_one⟩

end Go.Proofs.YtaniaihoodgmpaaGreatDoor

namespace Go.Proofs.YtaniaihoodgmpaaGreatDoor
open Go.RowKit Go.PK
set_option linter.unusedVariables false
set_option linter.unusedSimpArgs false

abbrev tyPatU : Ty (Int × Int × List Int × List Int × Unit) := tyCons tyI (tyCons tyI (tyCons (tySlice tyI) (tyCons (tySlice tyI) tyNil)))
abbrev tyActU : Ty (Int × Int × Int × Bool × Bool × ByteArray × Unit) := tyCons tyI (tyCons tyI (tyCons tyI (tyCons tyBool (tyCons tyBool (tyCons (tyStrN 1048576) tyNil)))))
theorem rdr_actU : RdrN Tryz.prog 34 tyActU 1048576 :=
  rdrN_struct Tryz.underlying34 (by kernel_rfl) (by decide) (.cons rfl (rdr_i Tryz.underlying3 (by kernel_rfl)).N (.cons rfl (rdr_i Tryz.underlying3 (by kernel_rfl)).N (.cons rfl (rdr_i Tryz.underlying3 (by kernel_rfl)).N (.cons rfl (rdr_bool Tryz.underlying4 (by kernel_rfl)).N (.cons rfl (rdr_bool Tryz.underlying4 (by kernel_rfl)).N (.cons rfl (rdr_sN Tryz.underlying9 (by kernel_rfl)) (.nil _)))))))
theorem rdr_act : RdrN Tryz.prog 34 tyAct 1048576 :=
  ⟨rdr_actU.size, rdr_actU.pos, fun M hM h => by
    obtain ⟨⟨y1, y2, y3, y4, y5, y6, _⟩, hy⟩ := rdr_actU.rd M hM h
    obtain ⟨_, _, e0, ⟨e1, k1⟩, _, _, rfl, ⟨e2, k2⟩, _, _, rfl, ⟨e3, k3⟩, _, _, rfl, e4, _, _, rfl, e5, _, _, rfl, ⟨e6, k6⟩, e7⟩ := hy
    dsimp only at e1 e2 e3 k1 k2 k3 k6 e6
    have e7 : _ = [] := e7
    have e4 : _ = [Value.bool y4] := e4
    have e5 : _ = [Value.bool y5] := e5
    refine ⟨⟨y1, y2, y3, y4, y5, y6⟩, ?_, k1, k2, k3, k6⟩
    rw [e0, e1, e2, e3, e4, e5, e6, e7]; rfl⟩

end Go.Proofs.YtaniaihoodgmpaaGreatDoor
