/- Of the proofs of YtaniaihoodgmpaaGreatDoor: Uj Xx Xp, put together. -/
import Derived.Test.YtaniaihoodgmpaaGreatDoorM6
import Derived.Test.YtaniaihoodgmpaaGreatDoorM5
import Derived.Lay
import Derived.LaidSub
import Derived.Lib.LaidTab
import Derived.Stop.LaidErr
import Derived.Deep.DeepHandedRow
import Derived.SevenTiedAt
import Derived.Test.YtaniaihoodgmpaaGreatDoorM2
import Derived.Test.YtaniaihoodgmpaaGreatDoorM1
import Derived.Test.YtaniaihoodgmpaaGreatDoorM3
import Derived.Test.YtaniaihoodgmpaaGreatDoorM4
namespace Go.Proofs.YtaniaihoodgmpaaGreatDoor
open Go.RowKit Go.PK
set_option linter.unusedVariables false
set_option linter.unusedSimpArgs false

theorem take_srt {p : Pat} {es : List Ent} {text : ByteArray} {day : Int} (h : srt es) : srt (takeQ p es text day).1 ∧ (takeQ p es text day).1.length ≤ es.length + 1 := by
  rw [takeQ_eq]
  cases hx : (tkE p text day).1 with
  | none => exact ⟨h, by dsimp only; omega⟩
  | some x =>
    dsimp only
    cases hm : meets es x with
    | true => exact ⟨h, by show es.length ≤ _; omega⟩
    | false => exact ⟨(ins_srt h (tkE_ok hx).1 hm).1, by show (insE es x).length ≤ _; rw [insE_len]; omega⟩
theorem serRd_own {p : Pat} {es : List Ent} {R : RowS} {v1 v2 : Value} {w : World} {own : List (Nat × Obj)} {ro : List Snap} {b : Nat} {e e2 : TypeId} (hm : Mem w own ro) (hb : (b, Obj.cells [Value.int .i64 p.first, Value.int .i64 p.days, v1, v2, rowV R es.length].toArray e (0, 0)) ∈ own)
    (hp : patRd (fun _ => True) w p v1 v2) (hR : rowOK 4 R es.length (entsC es)) (hin : ∀ x ∈ es, entIn x) (h3 : ∀ q ∈ rowO e2 R, q ∈ own) : SerRd w b p es v1 v2 (rowV R es.length) where
  cells := fun j hj => by
    have := hm.cell_own hb j
    rw [this, List.getElem?_toArray]
    exact List.getElem?_eq_getElem (l := [Value.int .i64 p.first, Value.int .i64 p.days, v1, v2, rowV R es.length]) hj
  lvs := hp.2.2.1
  sts := hp.2.2.2
  fst := hp.1
  dys := hp.2.1
  ent := ents_rd (e := e2) hR rfl hin hm h3 (fun _ _ => trivial)
set_option maxHeartbeats 8000000 in
set_option maxRecDepth 100000 in
theorem lawPlays {v va : Value} {l : List Int} {ac : List ActD} {z : Int} {D : Nat → Prop} (w : World) (hl : sliceRd tyI D w v l) (hac : sliceRd tyAct D w va ac) (hz : in64 z) (hL : LD w) :
    Calls Tryz.prog 3 #[v, va, .int .i64 z] w fun e w' => e = .returned (.bool (true)) ∧ Later w w' := by
  obtain ⟨A0, c0, rfl, hlc0, hmx0, -⟩ := id hl
  obtain ⟨AC, cC, rfl, -⟩ := id hac
  obtain ⟨p, hP⟩ : ∃ p, patL l = p := ⟨_, rfl⟩
  have hq : rightQ p := hP ▸ patL_right l
  refine enter (vs := [.slice A0 l.length c0, .slice AC ac.length cC, .int .i64 z]) Tryz.func3 rfl Tryz.ntmps3 rfl ?_
  refine w_seq ?_
  refine rg_text ?_
  refine x_val rfl rfl rfl (v_assign rfl) ?_
  refine x_end ?_
  refine t_norm ?_
  refine w_seq ?_
  refine rg_text ?_
  refine x_callb rfl rfl rfl Tryz.func8 (by kernel_rfl) rfl (fun w1 hw1 => c_sanity w1 (hL.later (hw1.base (by simp)))) ?_
  intro b15 hb15
  obtain rfl : b15 = true := hb15
  refine x_val rfl rfl rfl (v_assign rfl) ?_
  refine x_end ?_
  refine t_norm ?_
  refine w_seq ?_
  refine rg_text ?_
  refine x_val rfl rfl rfl (v_move rfl) ?_
  refine x_call (R := fun v wa wb => ∃ v1 v2, v = .agg #[.int .i64 p.first, .int .i64 p.days, v1, v2] ∧ patRd (fun b => wa.heap.size ≤ b) wb p v1 v2) rfl rfl rfl Tryz.func9 (by kernel_rfl) rfl (fun w1 hw1 => by
    have h := c_pattern w1 (hl.keep (Kept.later (hw1.base (by simp))))
    rw [hP] at h
    exact h.mono fun e w2 ⟨v1, v2, h1, h2, h3⟩ => ⟨_, h1, h2, v1, v2, rfl, h3⟩) ?_
  intro v17 wa17 wb17 hm17 hl17 hR17
  obtain ⟨v1, v2, rfl, hp1, hp2, hpa, hpb⟩ := hR17
  obtain ⟨A1, c1, rfl, -⟩ := id hpa
  obtain ⟨A2, c2, rfl, -⟩ := id hpb
  refine x_alloc rfl rfl rfl zr26 ?_
  intro p8
  refine x_store0 [] rfl rfl rfl rfl sz26 rfl rfl ?_
  refine x_end ?_
  refine t_norm ?_
  refine w_seq_cut (σ := Nat × RowS × RowS × Nat) (fun y => SerOK p [] y.2.1 y.2.2.1 none) (fun y => [(1, Value.slice AC ac.length cC), (2, Value.int .i64 z), (7, Value.bool true), (8, Value.pointer (some ⟨p8, 0, none⟩)), (9, Value.pointer (some ⟨y.1, 0, none⟩)), (10, Value.pointer (some ⟨y.2.2.2, 0, none⟩))]) (fun y => (y.1, Obj.cells (serC p y.2.1 y.2.2.1 none 0).toArray 61 (0, 0)) :: (rowO 85 none ++ (rowO 3 y.2.1 ++ (rowO 3 y.2.2.1 ++ ((y.2.2.2, Obj.cells ([Value.int .i64 p.first, Value.int .i64 p.days, Value.slice A1 p.lv.length c1, Value.slice A2 p.st.length c2, rowV none 0]).toArray 74 (0, 0)) :: (rowO 91 none ++ [(p8, Obj.cells ([Value.int .i64 p.first, Value.int .i64 p.days, Value.slice A1 p.lv.length c1, Value.slice A2 p.st.length c2]).toArray 26 (0, 0))])))))) (fun y => [(wb17, notOwn []), (w, fun _ => True)]) ?_ ?_
  · refine rg_draw 6 [(true, 0), (true, 2), (false, 1), (false, 3), (true, 4), (true, 5)] (by kernel_rfl) (by kernel_rfl) ?_
    refine x_val rfl rfl rfl (v_load_blk (e := 26) (fz := (0, 0)) (cs := ([Value.int .i64 p.first, Value.int .i64 p.days, Value.slice A1 p.lv.length c1, Value.slice A2 p.st.length c2]).toArray) Tryz.underlying26 rfl rfl (by repeat (first | exact List.Mem.head _ | apply List.Mem.tail | apply List.mem_append_right)) (by exact sz26)) ?_
    refine x_val rfl rfl rfl (v_load_blk (e := 26) (fz := (0, 0)) (cs := ([Value.int .i64 p.first, Value.int .i64 p.days, Value.slice A1 p.lv.length c1, Value.slice A2 p.st.length c2]).toArray) Tryz.underlying26 rfl rfl (by repeat (first | exact List.Mem.head _ | apply List.Mem.tail | apply List.mem_append_right)) (by exact sz26)) ?_
    refine x_own (τ := Nat × RowS × RowS) (fun x => .pointer (some ⟨x.1, 0, none⟩)) (fun x => SerOK p [] x.2.1 x.2.2 none) (fun x => (x.1, Obj.cells (serC p x.2.1 x.2.2 none 0).toArray 61 (0, 0)) :: (rowO 3 x.2.1 ++ (rowO 3 x.2.2 ++ [(p8, Obj.cells ([Value.int .i64 p.first, Value.int .i64 p.days, Value.slice A1 p.lv.length c1, Value.slice A2 p.st.length c2]).toArray 26 (0, 0))]))) rfl rfl rfl Tryz.func10 (by kernel_rfl) rfl (fun w1 hw1 => (c_New p w1 (⟨hp1, hp2, keep_new hpa hw1 (by repeat (first | exact List.Mem.head _ | apply List.Mem.tail)) hm17, keep_new hpb hw1 (by repeat (first | exact List.Mem.head _ | apply List.Mem.tail)) hm17⟩ : patRd (fun _ => True) w1 p (Value.slice A1 p.lv.length c1) (Value.slice A2 p.st.length c2)) hq (hL.later (hw1.base (by simp)))).mono fun e w2 ⟨bq, r1, r2, h1, h2, h3, h4⟩ => ⟨(bq, r1, r2), h1, h2, h3, (hw1.join2 h4).to (by first | (simp [rowO, List.append_assoc]; done) | (simp [rowO, List.append_assoc]; rfl))⟩) ?_
    intro q hS0
    obtain ⟨bs, r1, r2⟩ := q
    dsimp only at hS0 ⊢
    refine x_own (τ := Nat) (fun x => .pointer (some ⟨x, 0, none⟩)) (fun _ => True) (fun x => (x, Obj.cells ([Value.int .i64 p.first, Value.int .i64 p.days, Value.slice A1 p.lv.length c1, Value.slice A2 p.st.length c2, Value.slice none 0 0]).toArray 74 (0, 0)) :: ((bs, Obj.cells (serC p r1 r2 none 0).toArray 61 (0, 0)) :: (rowO 3 r1 ++ (rowO 3 r2 ++ [(p8, Obj.cells ([Value.int .i64 p.first, Value.int .i64 p.days, Value.slice A1 p.lv.length c1, Value.slice A2 p.st.length c2]).toArray 26 (0, 0))])))) rfl rfl rfl Tryz.func11 (by kernel_rfl) rfl (fun w1 hw1 => (c_rNew p w1 (⟨hp1, hp2, keep_new hpa hw1 (by repeat (first | exact List.Mem.head _ | apply List.Mem.tail)) hm17, keep_new hpb hw1 (by repeat (first | exact List.Mem.head _ | apply List.Mem.tail)) hm17⟩ : patRd (fun _ => True) w1 p (Value.slice A1 p.lv.length c1) (Value.slice A2 p.st.length c2)) hq).mono fun e w2 ⟨bq, h1, h2, h3⟩ => ⟨bq, h1, h2, trivial, (hw1.join2 h3).to (by first | (simp; done) | (simp; rfl))⟩) ?_
    intro bw _
    refine x_val rfl rfl rfl (v_assign rfl) ?_
    refine x_val rfl rfl rfl (v_assign rfl) ?_
    refine x_end ?_
    exact c_norm (bs, r1, r2, bw) hS0 (by repeat (first | exact Sub.nil | refine Sub.cons rfl ?_)) (fun w1 h => ((h.to (by simp only [List.cons_append, List.append_assoc])).perm (List.perm_middle (a := (bw, Obj.cells ([Value.int .i64 p.first, Value.int .i64 p.days, Value.slice A1 p.lv.length c1, Value.slice A2 p.st.length c2, Value.slice none 0 0]).toArray 74 (0, 0))) (l₁ := (bs, Obj.cells (serC p r1 r2 none 0).toArray 61 (0, 0)) :: (rowO 3 r1 ++ rowO 3 r2)) (l₂ := [(p8, Obj.cells ([Value.int .i64 p.first, Value.int .i64 p.days, Value.slice A1 p.lv.length c1, Value.slice A2 p.st.length c2]).toArray 26 (0, 0))])).symm).to (by simp only [List.cons_append, List.append_assoc]; rfl))
  · rintro ⟨bs, r1, r2, bw⟩ hS0
    refine w_state ([(1, Value.slice AC ac.length cC), (2, Value.int .i64 z), (7, Value.bool true), (8, Value.pointer (some ⟨p8, 0, none⟩)), (9, Value.pointer (some ⟨bs, 0, none⟩)), (10, Value.pointer (some ⟨bw, 0, none⟩))]) ((bs, Obj.cells (serC p r1 r2 none 0).toArray 61 (0, 0)) :: (rowO 85 none ++ (rowO 3 r1 ++ (rowO 3 r2 ++ ((bw, Obj.cells ([Value.int .i64 p.first, Value.int .i64 p.days, Value.slice A1 p.lv.length c1, Value.slice A2 p.st.length c2, rowV none 0]).toArray 74 (0, 0)) :: (rowO 91 none ++ [(p8, Obj.cells ([Value.int .i64 p.first, Value.int .i64 p.days, Value.slice A1 p.lv.length c1, Value.slice A2 p.st.length c2]).toArray 26 (0, 0))])))))) ([(wb17, notOwn []), (w, fun _ => True)]) ?_
    dsimp only at hS0
    refine w_seq ?_
    refine w_seq ?_
    refine rg_text ?_
    refine x_val rfl rfl rfl (v_assign rfl) ?_
    refine x_end ?_
    refine t_norm ?_
    refine w_block ?_
    refine w_loop (σ := Nat × List Ent × RowS × RowS) (fun x => x.1 ≤ ac.length ∧ x.1 ≤ 20 ∧ x.2.1.length ≤ x.1 ∧ srt x.2.1 ∧ rowOK 4 x.2.2.1 x.2.1.length (entsC x.2.1) ∧ rowOK 4 x.2.2.2 x.2.1.length (entsC x.2.1)) (fun x => [(1, Value.slice AC ac.length cC), (2, Value.int .i64 z), (7, Value.bool true), (8, Value.pointer (some ⟨p8, 0, none⟩)), (9, Value.pointer (some ⟨bs, 0, none⟩)), (10, Value.pointer (some ⟨bw, 0, none⟩)), (11, Value.int .i64 (x.1 : Nat))]) (fun x => (bs, Obj.cells (serC p r1 r2 x.2.2.1 x.2.1.length).toArray 61 (0, 0)) :: (rowO 85 x.2.2.1 ++ (rowO 3 r1 ++ (rowO 3 r2 ++ ((bw, Obj.cells ([Value.int .i64 p.first, Value.int .i64 p.days, Value.slice A1 p.lv.length c1, Value.slice A2 p.st.length c2, rowV x.2.2.2 x.2.1.length]).toArray 74 (0, 0)) :: (rowO 91 x.2.2.2 ++ [(p8, Obj.cells ([Value.int .i64 p.first, Value.int .i64 p.days, Value.slice A1 p.lv.length c1, Value.slice A2 p.st.length c2]).toArray 26 (0, 0))])))))) (fun x => [(wb17, notOwn []), (w, fun _ => True)]) (fun x => 20 - x.1) ((0, [], none, none)) (⟨Nat.zero_le _, Nat.zero_le _, Nat.le_refl _, srt_nil, rowOK_nil, rowOK_nil⟩) (l_start (by repeat (first | exact Sub.nil | refine Sub.cons rfl ?_)) (fun w1 h => h.to (by simp [rowO]))) ?_
    rintro ⟨k, es, R, G⟩ ⟨hka, hk20, hel, hsrt, hR, hG⟩
    refine w_state ([(1, Value.slice AC ac.length cC), (2, Value.int .i64 z), (7, Value.bool true), (8, Value.pointer (some ⟨p8, 0, none⟩)), (9, Value.pointer (some ⟨bs, 0, none⟩)), (10, Value.pointer (some ⟨bw, 0, none⟩)), (11, Value.int .i64 (k : Nat))]) ((bs, Obj.cells (serC p r1 r2 R es.length).toArray 61 (0, 0)) :: (rowO 85 R ++ (rowO 3 r1 ++ (rowO 3 r2 ++ ((bw, Obj.cells ([Value.int .i64 p.first, Value.int .i64 p.days, Value.slice A1 p.lv.length c1, Value.slice A2 p.st.length c2, rowV G es.length]).toArray 74 (0, 0)) :: (rowO 91 G ++ [(p8, Obj.cells ([Value.int .i64 p.first, Value.int .i64 p.days, Value.slice A1 p.lv.length c1, Value.slice A2 p.st.length c2]).toArray 26 (0, 0))])))))) ([(wb17, notOwn []), (w, fun _ => True)]) ?_
    dsimp only at hka hk20 hel hsrt hR hG
    have hSk := hS0.with hR (fun x hx => (hsrt.2 x hx).in)
    refine w_seq ?_
    refine w_seq ?_
    refine rg_text ?_
    refine x_val rfl rfl rfl (v_move rfl) ?_
    refine x_val rfl rfl rfl (v_move rfl) ?_
    refine x_val rfl rfl rfl (v_len_slice Tryz.underlying23 rfl) ?_
    refine x_bool rfl rfl rfl (v_lss rfl rfl) ?_
    intro b25 hb25
    refine x_val rfl rfl rfl (v_move rfl) ?_
    refine x_if [] rfl rfl rfl rfl rfl (fun hg => by obtain ⟨hg0, _⟩ := hg; subst hg0; (try simp only [List.cons_append, List.nil_append, gvl_nil, gvl_t, gvl_f]); exact v_move rfl) ?_
    refine x_ifb [] rfl rfl rfl rfl rfl (fun hg => by obtain ⟨hg0, _⟩ := hg; subst hg0; (try simp only [List.cons_append, List.nil_append, gvl_nil, gvl_t, gvl_f]); exact v_lss rfl rfl) ?_
    intro b28 hb28
    refine x_bool rfl rfl rfl (v_and rfl rfl) ?_
    intro b29 hb29
    refine x_end ?_
    refine t_norm ?_
    refine w_cond rfl (fun hc29 => ?_) (fun hc29 => ?_)
    · simp only [hb29, hb28, hb25, decide_eq_true_eq, decide_eq_false_iff_not, Bool.and_eq_true, Bool.or_eq_true, Bool.and_eq_false_iff, Bool.or_eq_false_iff, Bool.not_eq_true', Bool.not_eq_false', ne_eq, Decidable.not_not] at hc29
      have hkl : k < ac.length := by omega
      obtain ⟨b0, o0, hA0, _, hca, hai⟩ := act_at hac hkl
      have hca' : ∀ j (hj : j < (actC ac[k]).length), At ((bs, Obj.cells (serC p r1 r2 R es.length).toArray 61 (0, 0)) :: (rowO 85 R ++ (rowO 3 r1 ++ (rowO 3 r2 ++ ((bw, Obj.cells ([Value.int .i64 p.first, Value.int .i64 p.days, Value.slice A1 p.lv.length c1, Value.slice A2 p.st.length c2, rowV G es.length]).toArray 74 (0, 0)) :: (rowO 91 G ++ [(p8, Obj.cells ([Value.int .i64 p.first, Value.int .i64 p.days, Value.slice A1 p.lv.length c1, Value.slice A2 p.st.length c2]).toArray 26 (0, 0))])))))) ([(wb17, notOwn []), (w, fun _ => True)]) b0 (o0 + k * 6 + j) (actC ac[k])[j] := fun j hj => at_ro (s := (w, fun _ => True)) (by simp) trivial (hca j hj)
      obtain ⟨es', cd, hst⟩ : ∃ es' cd, takeQ p es (callT p ac[k]) (callD p ac[k]) = (es', cd) := ⟨_, _, rfl⟩
      obtain ⟨hs9, hl9⟩ := take_srt (p := p) (text := callT p ac[k]) (day := callD p ac[k]) hsrt
      rw [hst] at hs9 hl9
      dsimp only at hs9 hl9
      refine w_skip ?_
      refine t_norm ?_
      refine w_seq ?_
      refine w_block ?_
      refine w_seq ?_
      refine rg_draw 11 [(true, 0), (true, 1), (true, 2), (true, 3), (true, 4), (true, 5), (true, 6), (true, 7), (true, 8), (true, 9), (true, 10)] (by kernel_rfl) (by kernel_rfl) ?_
      refine x_val rfl rfl rfl (v_move rfl) ?_
      refine x_val rfl rfl rfl (v_move rfl) ?_
      refine x_val rfl rfl rfl (v_indexAddr (j := k) Tryz.underlying23 sz34 (congrArg (fun A => some (Value.slice A ac.length cC)) hA0) rfl (by first | omega | (dsimp only; omega)) rfl) ?_
      refine x_val rfl rfl rfl (v_loadN (vs := actC ac[k]) Tryz.underlying34 rfl sz34 rfl (fun j hj => hca' j hj)) ?_
      refine x_val rfl rfl rfl (v_load_blk (e := 26) (fz := (0, 0)) (cs := ([Value.int .i64 p.first, Value.int .i64 p.days, Value.slice A1 p.lv.length c1, Value.slice A2 p.st.length c2]).toArray) Tryz.underlying26 rfl rfl (by repeat (first | exact List.Mem.head _ | apply List.Mem.tail | apply List.mem_append_right)) (by exact sz26)) ?_
      refine x_callv (v := .tuple #[.string (callT p ac[k]), .int .i64 (callD p ac[k])]) rfl rfl rfl Tryz.func12 (by kernel_rfl) rfl (fun w1 hw1 => c_Call p ac[k] w1 (⟨hp1, hp2, keep_new hpa hw1 (by repeat (first | exact List.Mem.head _ | apply List.Mem.tail)) hm17, keep_new hpb hw1 (by repeat (first | exact List.Mem.head _ | apply List.Mem.tail)) hm17⟩ : patRd (fun _ => True) w1 p (Value.slice A1 p.lv.length c1) (Value.slice A2 p.st.length c2)) hq hai) ?_
      refine x_val rfl rfl rfl (v_move rfl) ?_
      refine x_val rfl rfl rfl (v_extract rfl rfl) ?_
      refine x_val rfl rfl rfl (v_extract rfl rfl) ?_
      refine x_val rfl rfl rfl (v_assign rfl) ?_
      refine x_val rfl rfl rfl (v_assign rfl) ?_
      refine x_end ?_
      refine t_norm ?_
      refine w_seq ?_
      refine rg_text ?_
      refine x_val rfl rfl rfl (v_move rfl) ?_
      refine x_val rfl rfl rfl (v_move rfl) ?_
      refine x_val rfl rfl rfl (v_move rfl) ?_
      refine x_turnf (v := Value.int .i64 cd) (fun R' : RowS => rowOK 4 R' es'.length (entsC es')) (fun R' => (bs, Obj.cells (serC p r1 r2 R' es'.length).toArray 61 (0, 0)) :: (rowO 85 R' ++ (rowO 3 r1 ++ (rowO 3 r2 ++ ((bw, Obj.cells ([Value.int .i64 p.first, Value.int .i64 p.days, Value.slice A1 p.lv.length c1, Value.slice A2 p.st.length c2, rowV G es.length]).toArray 74 (0, 0)) :: (rowO 91 G ++ [(p8, Obj.cells ([Value.int .i64 p.first, Value.int .i64 p.days, Value.slice A1 p.lv.length c1, Value.slice A2 p.st.length c2]).toArray 26 (0, 0))])))))) rfl rfl Tryz.func13 (by kernel_rfl) rfl (fun w1 hw1 => by
        have h := c_Take (w0 := w) p es (callT p ac[k]) (callD p ac[k]) hw1 (by simp) hL hSk (by have := callT_sz hq hai; omega) (callD_in p _) (by omega)
        rw [hst] at h
        exact h.mono fun e w2 ⟨R', h1, h2, h3⟩ => ⟨h1, R', h2, h3⟩) ?_
      intro R' hR'
      refine x_val rfl rfl rfl (v_move rfl) ?_
      refine x_val rfl rfl rfl (v_move rfl) ?_
      refine x_val rfl rfl rfl (v_move rfl) ?_
      refine x_mem (own' := ((bw, Obj.cells ([Value.int .i64 p.first, Value.int .i64 p.days, Value.slice A1 p.lv.length c1, Value.slice A2 p.st.length c2, rowV G es.length]).toArray 74 (0, 0)) :: (rowO 91 G ++ [(p8, Obj.cells ([Value.int .i64 p.first, Value.int .i64 p.days, Value.slice A1 p.lv.length c1, Value.slice A2 p.st.length c2]).toArray 26 (0, 0))])) ++ ((bs, Obj.cells (serC p r1 r2 R' es'.length).toArray 61 (0, 0)) :: (rowO 85 R' ++ (rowO 3 r1 ++ rowO 3 r2)))) (fun _ h => ((h.to (by simp [List.append_assoc] : _ = ((bs, Obj.cells (serC p r1 r2 R' es'.length).toArray 61 (0, 0)) :: (rowO 85 R' ++ (rowO 3 r1 ++ rowO 3 r2))) ++ ((bw, Obj.cells ([Value.int .i64 p.first, Value.int .i64 p.days, Value.slice A1 p.lv.length c1, Value.slice A2 p.st.length c2, rowV G es.length]).toArray 74 (0, 0)) :: (rowO 91 G ++ [(p8, Obj.cells ([Value.int .i64 p.first, Value.int .i64 p.days, Value.slice A1 p.lv.length c1, Value.slice A2 p.st.length c2]).toArray 26 (0, 0))])))).perm List.perm_append_comm)) ?_
      refine x_turnf (v := Value.int .i64 cd) (fun G' : RowS => rowOK 4 G' es'.length (entsC es')) (fun G' => ((bw, Obj.cells ([Value.int .i64 p.first, Value.int .i64 p.days, Value.slice A1 p.lv.length c1, Value.slice A2 p.st.length c2, rowV G' es'.length]).toArray 74 (0, 0)) :: (rowO 91 G' ++ [(p8, Obj.cells ([Value.int .i64 p.first, Value.int .i64 p.days, Value.slice A1 p.lv.length c1, Value.slice A2 p.st.length c2]).toArray 26 (0, 0))])) ++ ((bs, Obj.cells (serC p r1 r2 R' es'.length).toArray 61 (0, 0)) :: (rowO 85 R' ++ (rowO 3 r1 ++ rowO 3 r2)))) rfl rfl Tryz.func14 (by kernel_rfl) rfl (fun w1 hw1 => by
        have h := c_rTake (l2 := (p8, Obj.cells ([Value.int .i64 p.first, Value.int .i64 p.days, Value.slice A1 p.lv.length c1, Value.slice A2 p.st.length c2]).toArray 26 (0, 0)) :: ((bs, Obj.cells (serC p r1 r2 R' es'.length).toArray 61 (0, 0)) :: (rowO 85 R' ++ (rowO 3 r1 ++ rowO 3 r2)))) p es (callT p ac[k]) (callD p ac[k]) (hw1.to (by first | rfl | (simp only [List.cons_append, List.append_assoc, List.nil_append]; done) | (simp only [List.cons_append, List.append_assoc, List.nil_append]; rfl))) (fun w1 own1 hw1 => (⟨hp1, hp2, keep_new hpa hw1 (by repeat (first | exact List.Mem.head _ | apply List.Mem.tail)) hm17, keep_new hpb hw1 (by repeat (first | exact List.Mem.head _ | apply List.Mem.tail)) hm17⟩ : patRd (fun _ => True) w1 p (Value.slice A1 p.lv.length c1) (Value.slice A2 p.st.length c2))) hG hsrt (by have := callT_sz hq hai; omega) (callD_in p _) (by omega)
        rw [hst] at h
        exact h.mono fun e w2 ⟨G', h1, h2, h3⟩ => ⟨h1, G', h2, h3.to (by first | rfl | (simp only [List.cons_append, List.append_assoc, List.nil_append]; done) | (simp only [List.cons_append, List.append_assoc, List.nil_append]; rfl))⟩) ?_
      intro G' hG'
      refine x_bool rfl rfl rfl (v_neq rfl rfl) ?_
      intro b49 hb49
      obtain rfl : b49 = false := hb49.trans (decide_eq_false (fun h => h rfl))
      refine x_end ?_
      refine t_norm ?_
      refine w_cond rfl (fun hc49 => ?_) (fun hc49 => ?_)
      · cases hc49
      · skip
        refine w_skip ?_
        refine b_norm ?_
        refine t_norm ?_
        refine rg_text ?_
        refine x_val rfl rfl rfl (v_move rfl) ?_
        refine x_val rfl rfl rfl (v_addi rfl rfl rfl (by first | omega | (dsimp only; omega))) ?_
        refine x_val rfl rfl rfl (v_assign rfl) ?_
        refine x_end ?_
        exact l_norm (x := (k, es, R, G)) (μ := fun q : Nat × List Ent × RowS × RowS => 20 - q.1) (k + 1, es', R', G') ⟨by dsimp only; omega, by dsimp only; omega, by dsimp only; omega, hs9, hR', hG'⟩ (by simp only; omega) (by repeat (first | exact Sub.nil | refine Sub.cons rfl ?_)) (fun w1 h => (h.perm List.perm_append_comm).to (by first | rfl | (simp only [List.cons_append, List.append_assoc, List.nil_append]; done) | (simp only [List.cons_append, List.append_assoc, List.nil_append]; rfl)))
    · skip
      refine w_exit ?_
      refine t_exit ?_
      refine t_exit ?_
      refine b_hit ?_
      refine t_norm ?_
      refine w_seq ?_
      refine rg_draw 6 [(true, 0), (true, 1), (true, 2), (true, 3), (true, 4), (true, 5)] (by kernel_rfl) (by kernel_rfl) ?_
      refine x_val rfl rfl rfl (v_fieldAddr (off' := 0) Tryz.underlying26 rfl sz3 (by decide) rfl rfl) ?_
      refine x_val rfl rfl rfl (v_load Tryz.underlying3 rfl rfl (at_ownL (vs := [Value.int .i64 p.first, Value.int .i64 p.days, Value.slice A1 p.lv.length c1, Value.slice A2 p.st.length c2]) (by repeat (first | exact List.Mem.head _ | apply List.Mem.tail | apply List.mem_append_right)) rfl)) ?_
      refine x_val rfl rfl rfl (v_move rfl) ?_
      have z1 := Int.emod_nonneg z (show (20000 : Int) ≠ 0 by decide)
      have z2 := Int.emod_lt_of_pos z (show (0 : Int) < 20000 by decide)
      obtain ⟨f1, f2⟩ := patL_rng l
      rw [hP] at f1 f2
      refine x_callv (v := Value.int .i64 (z % 20000)) rfl rfl rfl Tryz.func15 (by kernel_rfl) rfl (fun w1 hw1 => c_Md z 20000 w1 hz (by decide)) ?_
      refine x_val (v := Value.int .i64 (p.first + z % 20000)) rfl rfl rfl (v_addi rfl rfl rfl (by omega)) ?_
      have hdd : in64 (p.first + z % 20000) := by unfold in64; omega
      obtain ⟨dd, hdde⟩ : ∃ d, p.first + z % 20000 = d := ⟨_, rfl⟩
      rw [hdde] at hdd ⊢
      refine x_val rfl rfl rfl (v_assign rfl) ?_
      refine x_end ?_
      refine t_norm ?_
      refine w_seq ?_
      refine rg_text ?_
      refine x_val rfl rfl rfl (v_move rfl) ?_
      refine x_val rfl rfl rfl (v_move rfl) ?_
      refine x_valg rfl rfl rfl rfl rfl (v_move rfl) ?_
      refine x_valg rfl rfl rfl rfl rfl (v_move rfl) ?_
      refine x_call_g (R := fun v wa wb => sliceRd tyIss (fun b => wa.heap.size ≤ b) wb v (missP p es dd)) rfl rfl rfl rfl rfl Tryz.func17 (by kernel_rfl) rfl (fun w1 hw1 => c_Missing p es dd w1 (hSk.rd (e := 61) (e1 := 3) (e2 := 85) hw1 (by repeat (first | exact List.Mem.head _ | apply List.Mem.tail | apply List.mem_append_right)) (fun q hq => by repeat (first | exact List.mem_append_left _ hq | exact hq | apply List.mem_append_right | apply List.Mem.tail)) (fun q hq => by repeat (first | exact List.mem_append_left _ hq | exact hq | apply List.mem_append_right | apply List.Mem.tail)) (fun q hq => by repeat (first | exact List.mem_append_left _ hq | exact hq | apply List.mem_append_right | apply List.Mem.tail))) hsrt.2 (by omega) hdd (hL.later (hw1.base (by simp)))) ?_
      intro v59 wa59 wb59 hm59 hl59 hR59
      obtain ⟨Aq59, cq59, rfl, -⟩ := id hR59
      refine x_valg rfl rfl rfl rfl rfl (v_move rfl) ?_
      refine x_valg rfl rfl rfl rfl rfl (v_move rfl) ?_
      refine x_call_g (R := fun v wa wb => sliceRd tyIss (fun b => wa.heap.size ≤ b) wb v (missP p es dd)) rfl rfl rfl rfl rfl Tryz.func18 (by kernel_rfl) rfl (fun w1 hw1 => c_rMissing p es dd w1 (serRd_own (e := 74) (e2 := 91) hw1 (by repeat (first | exact List.Mem.head _ | apply List.Mem.tail | apply List.mem_append_right)) (⟨hp1, hp2, keep_new hpa hw1 (by repeat (first | exact List.Mem.head _ | apply List.Mem.tail)) hm17, keep_new hpb hw1 (by repeat (first | exact List.Mem.head _ | apply List.Mem.tail)) hm17⟩ : patRd (fun _ => True) w1 p (Value.slice A1 p.lv.length c1) (Value.slice A2 p.st.length c2)) hG (fun x hx => (hsrt.2 x hx).in) (fun q hq => by repeat (first | exact List.mem_append_left _ hq | exact hq | apply List.mem_append_right | apply List.Mem.tail))) hsrt (by omega) hdd) ?_
      intro v62 wa62 wb62 hm62 hl62 hR62
      obtain ⟨Aq62, cq62, rfl, -⟩ := id hR62
      refine x_callbg rfl rfl rfl rfl rfl Tryz.func16 (by kernel_rfl) rfl (fun w1 hw1 => c_SameI w1 (keep_new hR59 hw1 (by repeat (first | exact List.Mem.head _ | apply List.Mem.tail | apply List.mem_append_right)) hm59) (keep_new hR62 hw1 (.head _) hm62)) ?_
      intro b63 hb63
      obtain rfl : b63 = true := hb63.trans (decide_eq_true rfl)
      refine x_bool rfl rfl rfl (v_and rfl rfl) ?_
      intro b64 hb64
      obtain rfl : b64 = true := hb64
      refine x_val rfl rfl rfl (v_move rfl) ?_
      refine x_valg rfl rfl rfl rfl rfl (v_move rfl) ?_
      refine x_call_g (R := fun v wa wb => sliceRd tyIss (fun b => wa.heap.size ≤ b) wb v (heldP p es)) rfl rfl rfl rfl rfl Tryz.func19 (by kernel_rfl) rfl (fun w1 hw1 => c_Held p es w1 (hSk.rd (e := 61) (e1 := 3) (e2 := 85) hw1 (by repeat (first | exact List.Mem.head _ | apply List.Mem.tail | apply List.mem_append_right)) (fun q hq => by repeat (first | exact List.mem_append_left _ hq | exact hq | apply List.mem_append_right | apply List.Mem.tail)) (fun q hq => by repeat (first | exact List.mem_append_left _ hq | exact hq | apply List.mem_append_right | apply List.Mem.tail)) (fun q hq => by repeat (first | exact List.mem_append_left _ hq | exact hq | apply List.mem_append_right | apply List.Mem.tail))) (fun _ => hq) hsrt.2 (by omega)) ?_
      intro v67 wa67 wb67 hm67 hl67 hR67
      obtain ⟨Aq67, cq67, rfl, -⟩ := id hR67
      refine x_valg rfl rfl rfl rfl rfl (v_move rfl) ?_
      refine x_call_g (R := fun v wa wb => sliceRd tyIss (fun b => wa.heap.size ≤ b) wb v (heldP p es)) rfl rfl rfl rfl rfl Tryz.func20 (by kernel_rfl) rfl (fun w1 hw1 => c_rHeld p es w1 (serRd_own (e := 74) (e2 := 91) hw1 (by repeat (first | exact List.Mem.head _ | apply List.Mem.tail | apply List.mem_append_right)) (⟨hp1, hp2, keep_new hpa hw1 (by repeat (first | exact List.Mem.head _ | apply List.Mem.tail)) hm17, keep_new hpb hw1 (by repeat (first | exact List.Mem.head _ | apply List.Mem.tail)) hm17⟩ : patRd (fun _ => True) w1 p (Value.slice A1 p.lv.length c1) (Value.slice A2 p.st.length c2)) hG (fun x hx => (hsrt.2 x hx).in) (fun q hq => by repeat (first | exact List.mem_append_left _ hq | exact hq | apply List.mem_append_right | apply List.Mem.tail))) (fun _ => hq) hsrt.2 (by omega)) ?_
      intro v69 wa69 wb69 hm69 hl69 hR69
      obtain ⟨Aq69, cq69, rfl, -⟩ := id hR69
      refine x_callbg rfl rfl rfl rfl rfl Tryz.func16 (by kernel_rfl) rfl (fun w1 hw1 => c_SameI w1 (keep_new hR67 hw1 (by repeat (first | exact List.Mem.head _ | apply List.Mem.tail | apply List.mem_append_right)) hm67) (keep_new hR69 hw1 (.head _) hm69)) ?_
      intro b70 hb70
      obtain rfl : b70 = true := hb70.trans (decide_eq_true rfl)
      refine x_bool rfl rfl rfl (v_and rfl rfl) ?_
      intro b71 hb71
      obtain rfl : b71 = true := hb71
      refine x_val rfl rfl rfl (v_move rfl) ?_
      refine x_valg rfl rfl rfl rfl rfl (v_move rfl) ?_
      refine x_callvg (v := Value.string (encQ p es)) rfl rfl rfl rfl rfl Tryz.func21 (by kernel_rfl) rfl (fun w1 hw1 => c_Enc p es w1 (hSk.rd (e := 61) (e1 := 3) (e2 := 85) hw1 (by repeat (first | exact List.Mem.head _ | apply List.Mem.tail | apply List.mem_append_right)) (fun q hq => by repeat (first | exact List.mem_append_left _ hq | exact hq | apply List.mem_append_right | apply List.Mem.tail)) (fun q hq => by repeat (first | exact List.mem_append_left _ hq | exact hq | apply List.mem_append_right | apply List.Mem.tail)) (fun q hq => by repeat (first | exact List.mem_append_left _ hq | exact hq | apply List.mem_append_right | apply List.Mem.tail))) (by omega) (hL.later (hw1.base (by simp)))) ?_
      refine x_valg rfl rfl rfl rfl rfl (v_move rfl) ?_
      refine x_callvg (v := Value.string (encQ p es)) rfl rfl rfl rfl rfl Tryz.func22 (by kernel_rfl) rfl (fun w1 hw1 => c_rEnc p es w1 (serRd_own (e := 74) (e2 := 91) hw1 (by repeat (first | exact List.Mem.head _ | apply List.Mem.tail | apply List.mem_append_right)) (⟨hp1, hp2, keep_new hpa hw1 (by repeat (first | exact List.Mem.head _ | apply List.Mem.tail)) hm17, keep_new hpb hw1 (by repeat (first | exact List.Mem.head _ | apply List.Mem.tail)) hm17⟩ : patRd (fun _ => True) w1 p (Value.slice A1 p.lv.length c1) (Value.slice A2 p.st.length c2)) hG (fun x hx => (hsrt.2 x hx).in) (fun q hq => by repeat (first | exact List.mem_append_left _ hq | exact hq | apply List.mem_append_right | apply List.Mem.tail))) (by omega)) ?_
      refine x_boolg rfl rfl rfl rfl rfl (v_seql rfl rfl) ?_
      intro b77 hb77
      obtain rfl : b77 = true := hb77.trans (decide_eq_true rfl)
      refine x_bool rfl rfl rfl (v_and rfl rfl) ?_
      intro b78 hb78
      obtain rfl : b78 = true := hb78
      refine x_val rfl rfl rfl (v_assign rfl) ?_
      refine x_end ?_
      refine t_norm ?_
      refine w_ret ?_
      exact ret1 rfl rfl (fun w' hm => ⟨rfl, hm.base (by simp)⟩)

end Go.Proofs.YtaniaihoodgmpaaGreatDoor

namespace Go.Proofs.YtaniaihoodgmpaaGreatDoor
open Go.RowKit Go.PK
set_option linter.unusedVariables false
set_option linter.unusedSimpArgs false

def laidL : List (String × DataW Unit) := [("math/bits.deBruijn32tab", Rows.laid_math_bits_deBruijn32tab), ("math/bits.deBruijn64tab", Rows.laid_math_bits_deBruijn64tab), ("internal/strconv.uint64pow10", Rows.laid_internal_strconv_uint64pow10), ("unicode/utf8.acceptRanges", Rows.laid_unicode_utf8_acceptRanges), ("strconv.ErrRange", Rows.laid_strconv_ErrRange), ("strconv.ErrSyntax", Rows.laid_strconv_ErrSyntax), ("unicode/utf8.first", Rows.laid_unicode_utf8_first)]
theorem noHandle {W : World} (h : laidMetH Tryz.prog laidL W) : laidMet Tryz.prog laidL W := by
  have h1 := (laidMetH_iff.1 h).1
  rwa [show (laidL.filter fun x => x.2.handleName?.isNone) = laidL from by kernel_rfl] at h1
theorem laid_tab {W : World} (h : laidMet Tryz.prog laidL W) : Lib.TabIs Tryz.prog W "internal/strconv.uint64pow10" .u64 Lib.pow10Tab := by
  have h1 := h.filter fun x => x.1 == "internal/strconv.uint64pow10"
  have e : (laidL.filter fun x => x.1 == "internal/strconv.uint64pow10") = [("internal/strconv.uint64pow10", Lib.tabData .u64 Lib.pow10Tab)] := by kernel_rfl
  rw [e] at h1
  exact Lib.tabIs_of_head (g := 3) (t := 194) (e := 107) (n := 20) (by kernel_rfl) (by kernel_rfl) (by kernel_rfl) (by kernel_rfl) (by kernel_rfl) (by kernel_rfl) h1
theorem star : "*" ++ "errors.errorString" = "*errors.errorString" := by decide
theorem row104 (u : TypeId) (h : Tryz.prog.typeName? 3 u = some "*errors.errorString") : u = 190 :=
  typeName_ptr_named (nm := "errors.errorString") (by rw [star]; kernel_rfl) (by kernel_rfl) (by decide) u (by rw [star]; exact h)
theorem laid_syn {W : World} (h : laidMet Tryz.prog laidL W) : ∃ tp p, W.var? Tryz.prog "strconv.ErrSyntax" = some #[.iface tp p] := by
  have h1 := h.filter fun x => x.1 == "strconv.ErrSyntax"
  have e : (laidL.filter fun x => x.1 == "strconv.ErrSyntax") = [("strconv.ErrSyntax", .iface "*errors.errorString" (.ptr (.agg [.lit (.string [105, 110, 118, 97, 108, 105, 100, 32, 115, 121, 110, 116, 97, 120])])))] := by kernel_rfl
  rw [e] at h1
  obtain ⟨a0, s0, hv0, _⟩ := laid_sentinel (g := 1) (ti := 112) (tp := 190) (te := 192) (ts := 9) h1 (by kernel_rfl) (by kernel_rfl) Tryz.underlying112 row104 Tryz.underlying190 Tryz.underlying192 rfl rfl Tryz.underlying9 (by kernel_rfl) (by kernel_rfl)
  exact ⟨_, _, hv0⟩
theorem laid_rng {W : World} (h : laidMet Tryz.prog laidL W) : ∃ tp p, W.var? Tryz.prog "strconv.ErrRange" = some #[.iface tp p] := by
  have h1 := h.filter fun x => x.1 == "strconv.ErrRange"
  have e : (laidL.filter fun x => x.1 == "strconv.ErrRange") = [("strconv.ErrRange", .iface "*errors.errorString" (.ptr (.agg [.lit (.string [118, 97, 108, 117, 101, 32, 111, 117, 116, 32, 111, 102, 32, 114, 97, 110, 103, 101])])))] := by kernel_rfl
  rw [e] at h1
  obtain ⟨a0, s0, hv0, _⟩ := laid_sentinel (g := 2) (ti := 112) (tp := 190) (te := 192) (ts := 9) h1 (by kernel_rfl) (by kernel_rfl) Tryz.underlying112 row104 Tryz.underlying190 Tryz.underlying192 rfl rfl Tryz.underlying9 (by kernel_rfl) (by kernel_rfl)
  exact ⟨_, _, hv0⟩

theorem ld_of {W : World} (h : laidMetH Tryz.prog laidL W) (hS : W.ShapedOpen Tryz.prog) : LD W := ⟨laid_tab (noHandle h), Tryz.laysM146.s1_3 W hS, laid_syn (noHandle h), laid_rng (noHandle h)⟩
theorem laid_met (os : Os) (args : Array Value) : laidMet Tryz.prog laidL ((World.laidAll Tryz.prog os laidL).forCall (fun _ _ => 0) ⟨#[], args, []⟩).memory :=
  laidMet_laidAll args (by kernel_rfl) (by kernel_rfl)
theorem bulk_one {H : Type} (d : DataW H) : 1 ≤ Rows.uptoBulk d := by
  cases d with
  | lit l => cases l <;> simp [Rows.uptoBulk]
  | nil => simp [Rows.uptoBulk]
  | ptr d => simp [Rows.uptoBulk]
  | slice elems spare => simp [Rows.uptoBulk]
  | agg parts => simp [Rows.uptoBulk]
  | iface t d => simp [Rows.uptoBulk]
  | map entries => simp [Rows.uptoBulk]
  | held h => simp [Rows.uptoBulk]
def meas (H : Type) : Meas H := ⟨Rows.uptoBulk, Rows.uptoBulkAll, fun _ => by simp [Rows.uptoBulk], fun _ _ => by simp [Rows.uptoBulk], fun _ => by simp [Rows.uptoBulk], fun _ _ => by simp [Rows.uptoBulkAll], bulk_one⟩

end Go.Proofs.YtaniaihoodgmpaaGreatDoor

namespace Go.Proofs.YtaniaihoodgmpaaGreatDoor
open Go.RowKit Go.PK
set_option linter.unusedVariables false
set_option linter.unusedSimpArgs false

abbrev tyPatU : Ty (Int × Int × List Int × List Int × Unit) := tyCons tyI (tyCons tyI (tyCons (tySlice tyI) (tyCons (tySlice tyI) tyNil)))
abbrev tyActU : Ty (Int × Int × Int × Bool × Bool × ByteArray × Unit) := tyCons tyI (tyCons tyI (tyCons tyI (tyCons tyBool (tyCons tyBool (tyCons (tyStrN 1048576) tyNil)))))
theorem rdr_actU : RdrN Tryz.prog 34 tyActU 1048576 :=
  rdrN_struct Tryz.underlying34 (by kernel_rfl) (by decide) (.cons rfl (rdr_i Tryz.underlying3 (by kernel_rfl)).N (.cons rfl (rdr_i Tryz.underlying3 (by kernel_rfl)).N (.cons rfl (rdr_i Tryz.underlying3 (by kernel_rfl)).N (.cons rfl (rdr_bool Tryz.underlying4 (by kernel_rfl)).N (.cons rfl (rdr_bool Tryz.underlying4 (by kernel_rfl)).N (.cons rfl (rdr_sN Tryz.underlying9 (by kernel_rfl)) (.nil _)))))))
theorem rdr_act : RdrN Tryz.prog 34 tyAct 1048576 :=
  ⟨rdr_actU.size, rdr_actU.pos, fun M hM h => by
    obtain ⟨⟨y1, y2, y3, y4, y5, y6, _⟩, hy⟩ := rdr_actU.rd M hM h
    obtain ⟨_, _, e0, ⟨e1, k1⟩, _, _, rfl, ⟨e2, k2⟩, _, _, rfl, ⟨e3, k3⟩, _, _, rfl, e4, _, _, rfl, e5, _, _, rfl, ⟨e6, k6⟩, e7⟩ := hy
    dsimp only at e1 e2 e3 k1 k2 k3 k6 e6
    have e7 : _ = [] := e7
    have e4 : _ = [Value.bool y4] := e4
    have e5 : _ = [Value.bool y5] := e5
    refine ⟨⟨y1, y2, y3, y4, y5, y6⟩, ?_, k1, k2, k3, k6⟩
    rw [e0, e1, e2, e3, e4, e5, e6, e7]; rfl⟩

end Go.Proofs.YtaniaihoodgmpaaGreatDoor
