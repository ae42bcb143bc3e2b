/- Of the proofs of YtbamklefagghcaaDoor: Wu Wv Ww Wx, put together. -/
import Derived.Test.YtbamklefagghcaaDoorM5
import Derived.Test.YtbamklefagghcaaDoorM2
import Derived.Lay
import Derived.LaidSub
import Derived.Lib.LaidTab
import Derived.Stop.LaidErr
import Derived.Deep.DeepHandedRow
import Derived.SevenTiedAt
import Derived.Test.YtbamklefagghcaaDoorM1
import Derived.Test.YtbamklefagghcaaDoorM3
import Derived.Test.YtbamklefagghcaaDoorM4
namespace Go.Proofs.YtbamklefagghcaaDoor
open Go.RowKit Go.PK
set_option linter.unusedVariables false
set_option linter.unusedSimpArgs false
set_option maxRecDepth 100000 in
theorem c_parses (s : ByteArray) (n k : Int) (w : World) (hs : s.size ≤ 200000000) :
    Calls Tryd.prog 14 #[.string s, .int .i64 n, .int .i64 k] w fun e w' => e = .returned (.bool (decide ((parR s).2.2 = k) && decide ((parR s).2.1 = n) && (decide ((parR s).2.2 = 0) || decide (((parR s).1.length : Int) = 0)))) ∧ Later w w' := by
  refine enter (vs := [.string s, .int .i64 n, .int .i64 k]) Tryd.func14 rfl Tryd.ntmps14 rfl ?_
  refine w_seq ?_
  refine rg_text ?_
  refine x_val rfl rfl rfl (v_assign rfl) ?_
  refine x_end ?_
  refine t_norm ?_
  refine w_seq ?_
  refine rg_text ?_
  refine x_val rfl rfl rfl (v_move rfl) ?_
  refine x_call (R := fun v wa wb => ∃ A c, v = .tuple #[.slice A (parR s).1.length c, .int .i64 (parR s).2.1, .int .i64 (parR s).2.2] ∧ sliceRd tySeg (fun b => wa.heap.size ≤ b) wb (.slice A (parR s).1.length c) (parR s).1) rfl rfl rfl Tryd.func7 (by kernel_rfl) rfl (fun w1 hw1 => (c_Parse s w1 hs).mono fun e w2 ⟨v, h1, h2, h3⟩ => by obtain ⟨A, c, rfl, _⟩ := id h3; exact ⟨_, h1, h2, A, c, rfl, h3⟩) ?_
  intro v12 wa12 wb12 hm12 hl12 hR12
  obtain ⟨A12, c12, rfl, hp12⟩ := hR12
  refine x_val rfl rfl rfl (v_move rfl) ?_
  refine x_val rfl rfl rfl (v_extract rfl rfl) ?_
  refine x_val rfl rfl rfl (v_extract rfl rfl) ?_
  refine x_val rfl rfl rfl (v_extract rfl rfl) ?_
  refine x_val rfl rfl rfl (v_assign rfl) ?_
  refine x_val rfl rfl rfl (v_assign rfl) ?_
  refine x_val rfl rfl rfl (v_assign rfl) ?_
  refine x_end ?_
  refine t_norm ?_
  refine w_seq ?_
  refine rg_text ?_
  refine x_val rfl rfl rfl (v_move rfl) ?_
  refine x_val rfl rfl rfl (v_move rfl) ?_
  refine x_bool rfl rfl rfl (v_eql rfl rfl) ?_
  intro b18 hb18
  refine x_val rfl rfl rfl (v_move rfl) ?_
  refine x_if [] rfl rfl rfl rfl rfl (fun hg => by obtain ⟨hg0, _⟩ := hg; subst hg0; (try simp only [List.cons_append, List.nil_append, gvl_nil, gvl_t, gvl_f]); exact v_move rfl) ?_
  refine x_if [] rfl rfl rfl rfl rfl (fun hg => by obtain ⟨hg0, _⟩ := hg; subst hg0; (try simp only [List.cons_append, List.nil_append, gvl_nil, gvl_t, gvl_f]); exact v_move rfl) ?_
  refine x_ifb [] rfl rfl rfl rfl rfl (fun hg => by obtain ⟨hg0, _⟩ := hg; subst hg0; (try simp only [List.cons_append, List.nil_append, gvl_nil, gvl_t, gvl_f]); exact v_eql rfl rfl) ?_
  intro b22 hb22
  refine x_bool rfl rfl rfl (v_and rfl rfl) ?_
  intro b23 hb23
  refine x_val rfl rfl rfl (v_move rfl) ?_
  refine x_if [] rfl rfl rfl rfl rfl (fun hg => by obtain ⟨hg0, _⟩ := hg; subst hg0; (try simp only [List.cons_append, List.nil_append, gvl_nil, gvl_t, gvl_f]); exact v_move rfl) ?_
  refine x_ifb [] rfl rfl rfl rfl rfl (fun hg => by obtain ⟨hg0, _⟩ := hg; subst hg0; (try simp only [List.cons_append, List.nil_append, gvl_nil, gvl_t, gvl_f]); exact v_eql rfl rfl) ?_
  intro b26 hb26
  refine x_if [] rfl rfl rfl rfl rfl (fun hg => by obtain ⟨hg0, _⟩ := hg; subst hg0; (try simp only [List.cons_append, List.nil_append, gvl_nil, gvl_t, gvl_f]); exact v_move rfl) ?_
  refine x_if [(b23, true)] rfl rfl rfl rfl rfl (fun hg => by obtain ⟨hg0, hg1, _⟩ := hg; subst hg0; subst hg1; (try simp only [List.cons_append, List.nil_append, gvl_nil, gvl_t, gvl_f]); exact v_move rfl) ?_
  refine x_if [(b23, true)] rfl rfl rfl rfl rfl (fun hg => by obtain ⟨hg0, hg1, _⟩ := hg; subst hg0; subst hg1; (try simp only [List.cons_append, List.nil_append, gvl_nil, gvl_t, gvl_f]); exact v_len_slice Tryd.underlying26 rfl) ?_
  refine x_ifb [(b23, true)] rfl rfl rfl rfl rfl (fun hg => by obtain ⟨hg0, hg1, _⟩ := hg; subst hg0; subst hg1; (try simp only [List.cons_append, List.nil_append, gvl_nil, gvl_t, gvl_f]); exact v_eql rfl rfl) ?_
  intro b30 hb30
  refine x_ifb [] rfl rfl rfl rfl rfl (fun hg => by obtain ⟨hg0, _⟩ := hg; subst hg0; (try simp only [List.cons_append, List.nil_append, gvl_nil, gvl_t, gvl_f]); exact v_or rfl rfl) ?_
  intro b31 hb31
  refine x_bool rfl rfl rfl (v_and rfl rfl) ?_
  intro b32 hb32
  refine x_val rfl rfl rfl (v_assign rfl) ?_
  refine x_end ?_
  refine t_norm ?_
  refine w_ret ?_
  refine ret1 rfl rfl (fun w' hm => ⟨?_, hm.base (by simp)⟩)
  rw [hb32, hb31, hb30, hb26, hb23, hb22, hb18]
set_option maxRecDepth 100000 in
theorem c_segments {u v z : Value} {tags texts : List ByteArray} {l : List (List UInt8)} {D1 D2 D3 : Nat → Prop} (w : World) (ht : sliceRd tyStr D1 w u tags) (hx : sliceRd tyStr D2 w v texts) (hl : sliceRd (tySlice tyB) D3 w z l) :
    Calls Tryd.prog 10 #[u, v, z] w fun e w' => ∃ q, e = .returned q ∧ Later w w' ∧ sliceRd tySeg (fun b => w.heap.size ≤ b) w' q (segsP tags texts l) := by
  obtain ⟨tA, tc, rfl, _, htm, _⟩ := id ht
  obtain ⟨xA, xc, rfl, _, hxm, _⟩ := id hx
  obtain ⟨lA, lc, rfl, _, hlm, _⟩ := id hl
  refine enter (vs := [.slice tA tags.length tc, .slice xA texts.length xc, .slice lA l.length lc]) Tryd.func10 rfl Tryd.ntmps10 rfl ?_
  refine w_seq ?_
  refine rg_text ?_
  refine x_val rfl rfl rfl (v_assign rfl) ?_
  refine x_end ?_
  refine t_norm ?_
  refine w_seq ?_
  refine rg_text ?_
  refine x_val rfl rfl rfl (v_assign rfl) ?_
  refine x_end ?_
  refine t_norm ?_
  refine w_seq ?_
  refine w_seq ?_
  refine rg_text ?_
  refine x_val rfl rfl rfl (v_assign rfl) ?_
  refine x_end ?_
  refine t_norm ?_
  refine w_block ?_
  refine w_fix (rowO 40 none) (List.Sublist.refl _) (fun w0 hm0 => ?_)
  refine w_loop (σ := Nat × RowS × World) (fun x => x.1 ≤ tags.length ∧ x.1 ≤ 10 ∧ RowT tySeg (newD w (rowO 40 x.2.1)) x.2.2 x.2.1 (segsK tags texts l x.1)) (fun x => [(0, Value.slice tA tags.length tc), (1, Value.slice xA texts.length xc), (2, Value.slice lA l.length lc), (7, rowV x.2.1 x.1), (8, Value.int .i64 (x.1 : Nat))]) (fun x => rowO 40 x.2.1) (fun x => (x.2.2, notOwn (rowO 40 x.2.1)) :: [(w, fun _ => True)]) (fun x => 10 - x.1) ((0, none, w0)) (⟨Nat.zero_le _, Nat.zero_le _, RowT.nil⟩) (l_start (by repeat (first | exact Sub.nil | refine Sub.cons rfl ?_)) (fun _ h => h)) ?_
  rintro ⟨k, R, ws⟩ ⟨hk, hk10, hT⟩
  refine w_state ([(0, Value.slice tA tags.length tc), (1, Value.slice xA texts.length xc), (2, Value.slice lA l.length lc), (7, rowV R k), (8, Value.int .i64 (k : Nat))]) (rowO 40 R) ((ws, notOwn (rowO 40 R)) :: [(w, fun _ => True)]) ?_
  dsimp only at hk hk10 hT
  obtain ⟨lb, lo, rA, rc, hlk⟩ := row_there hl k
  refine w_seq ?_
  refine w_seq ?_
  refine rg_text ?_
  refine x_val rfl rfl rfl (v_move rfl) ?_
  refine x_val rfl rfl rfl (v_move rfl) ?_
  refine x_val rfl rfl rfl (v_len_slice Tryd.underlying25 rfl) ?_
  refine x_bool rfl rfl rfl (v_lss rfl rfl) ?_
  intro b17 hb17
  refine x_val rfl rfl rfl (v_move rfl) ?_
  refine x_if [] rfl rfl rfl rfl rfl (fun hg => by obtain ⟨hg0, _⟩ := hg; subst hg0; (try simp only [List.cons_append, List.nil_append, gvl_nil, gvl_t, gvl_f]); exact v_move rfl) ?_
  refine x_ifb [] rfl rfl rfl rfl rfl (fun hg => by obtain ⟨hg0, _⟩ := hg; subst hg0; (try simp only [List.cons_append, List.nil_append, gvl_nil, gvl_t, gvl_f]); exact v_lss rfl rfl) ?_
  intro b20 hb20
  refine x_bool rfl rfl rfl (v_and rfl rfl) ?_
  intro b21 hb21
  refine x_end ?_
  refine t_norm ?_
  refine w_cond rfl (fun hc21 => ?_) (fun hc21 => ?_)
  · simp only [hb21, hb20, hb17, decide_eq_true_eq, decide_eq_false_iff_not, Bool.and_eq_true, Bool.or_eq_true, Bool.and_eq_false_iff, Bool.or_eq_false_iff, Bool.not_eq_true', Bool.not_eq_false', ne_eq, Decidable.not_not] at hc21
    have hk1 : k < tags.length := by omega
    have hk2 : k < 10 := by omega
    obtain ⟨tb, t0, htA, _, htc, htok⟩ := s_at ht hk1
    obtain ⟨tg, htg⟩ : ∃ t, tags[k] = t := ⟨_, rfl⟩
    rw [htg] at htc htok
    refine w_skip ?_
    refine t_norm ?_
    refine w_seq ?_
    refine w_block ?_
    refine w_seq ?_
    refine rg_text ?_
    refine x_val rfl rfl rfl (v_move rfl) ?_
    refine x_val rfl rfl rfl (v_move rfl) ?_
    refine x_val rfl rfl rfl (v_indexAddr Tryd.underlying25 sz9 (congrArg (fun A => some (Value.slice A tags.length tc)) htA) rfl (by first | omega | (dsimp only; omega)) rfl) ?_
    refine x_val rfl rfl rfl (v_load Tryd.underlying9 rfl rfl (at_ro (.tail _ (.head _)) trivial (by rw [Nat.mul_one]; exact htc))) ?_
    refine x_val rfl rfl rfl (v_buildL (places := [(0, 1), (1, 1)]) Tryd.underlying40 zr40 (by kernel_rfl) rfl rfl) ?_
    refine x_alloc rfl rfl rfl zr40 ?_
    intro p9
    refine x_store0 [] rfl rfl rfl rfl sz40 rfl rfl ?_
    refine x_end ?_
    refine t_norm ?_
    refine w_seq ?_
    refine w_seq ?_
    refine rg_text ?_
    refine x_val rfl rfl rfl (v_assign rfl) ?_
    refine x_end ?_
    refine t_norm ?_
    refine w_block ?_
    refine w_loop (σ := Nat × List (List ByteArray) × RowS × List RowS) (fun x => x.1 ≤ (l.getD k []).length ∧ x.1 ≤ 12 ∧ x.2.1 = elsAt texts (l.getD k []) x.1 ∧ SSOK x.2.2.1 x.2.2.2 x.2.1 ∧ x.2.1.length ≤ x.1 ∧ ∀ y ∈ x.2.1, y.length ≤ x.1 ∧ ∀ t ∈ y, okS t) (fun x => [(0, Value.slice tA tags.length tc), (1, Value.slice xA texts.length xc), (2, Value.slice lA l.length lc), (7, rowV R k), (8, Value.int .i64 (k : Nat)), (9, Value.pointer (some ⟨p9, 0, none⟩)), (10, Value.int .i64 (x.1 : Nat))]) (fun x => rowO 25 x.2.2.1 ++ (inO 9 x.2.2.2 ++ ((p9, Obj.cells [Value.string tg, rowV x.2.2.1 (x.2.1.length)].toArray 40) :: rowO 40 R))) (fun x => (ws, notOwn (rowO 40 R)) :: [(w, fun _ => True)]) (fun x => 12 - x.1) ((0, [], none, [])) (⟨Nat.zero_le _, Nat.zero_le _, rfl, SSOK.nil, Nat.zero_le _, fun y hy => by cases hy⟩) (l_start (by repeat (first | exact Sub.nil | refine Sub.cons rfl ?_)) (fun _ h => h)) ?_
    rintro ⟨j, xs, R2, S2⟩ ⟨hj, hj12, hxs, hS, hz1, hz2⟩
    refine w_state ([(0, Value.slice tA tags.length tc), (1, Value.slice xA texts.length xc), (2, Value.slice lA l.length lc), (7, rowV R k), (8, Value.int .i64 (k : Nat)), (9, Value.pointer (some ⟨p9, 0, none⟩)), (10, Value.int .i64 (j : Nat))]) (rowO 25 R2 ++ (inO 9 S2 ++ ((p9, Obj.cells [Value.string tg, rowV R2 (xs.length)].toArray 40) :: rowO 40 R))) ((ws, notOwn (rowO 40 R)) :: [(w, fun _ => True)]) ?_
    dsimp only at hj hj12 hxs hS hz1 hz2
    refine w_seq ?_
    refine w_seq ?_
    refine rg_text ?_
    refine x_val rfl rfl rfl (v_move rfl) ?_
    refine x_val rfl rfl rfl (v_move rfl) ?_
    refine x_val rfl rfl rfl (v_len_slice Tryd.underlying32 rfl) ?_
    refine x_bool rfl rfl rfl (v_lss rfl rfl) ?_
    intro b32 hb32
    refine x_val rfl rfl rfl (v_move rfl) ?_
    refine x_if [] rfl rfl rfl rfl rfl (fun hg => by obtain ⟨hg0, _⟩ := hg; subst hg0; (try simp only [List.cons_append, List.nil_append, gvl_nil, gvl_t, gvl_f]); exact v_move rfl) ?_
    refine x_if [] rfl rfl rfl rfl rfl (fun hg => by obtain ⟨hg0, _⟩ := hg; subst hg0; (try simp only [List.cons_append, List.nil_append, gvl_nil, gvl_t, gvl_f]); exact v_move rfl) ?_
    refine x_if [] rfl rfl rfl rfl rfl (fun hg => by obtain ⟨hg0, _⟩ := hg; subst hg0; (try simp only [List.cons_append, List.nil_append, gvl_nil, gvl_t, gvl_f]); exact v_move rfl) ?_
    refine x_if [] rfl rfl rfl rfl rfl (fun hg => by obtain ⟨hg0, _⟩ := hg; subst hg0; (try simp only [List.cons_append, List.nil_append, gvl_nil, gvl_t, gvl_f]); have h1 : k < l.length := (by have := of_decide_eq_true hb32.symm; omega); exact v_indexAddr Tryd.underlying32 sz24 (congrArg (fun A => some (Value.slice A l.length lc)) (hlk h1).1) rfl (h1) rfl) ?_
    refine x_if [] rfl rfl rfl rfl rfl (fun hg => by obtain ⟨hg0, _⟩ := hg; subst hg0; (try simp only [List.cons_append, List.nil_append, gvl_nil, gvl_t, gvl_f]); have h1 : k < l.length := (by have := of_decide_eq_true hb32.symm; omega); exact v_load Tryd.underlying24 rfl rfl (at_ro (.tail _ (.head _)) trivial (by rw [Nat.mul_one]; exact (hlk h1).2.2.1))) ?_
    refine x_if [] rfl rfl rfl rfl rfl (fun hg => by obtain ⟨hg0, _⟩ := hg; subst hg0; (try simp only [List.cons_append, List.nil_append, gvl_nil, gvl_t, gvl_f]); exact v_len_slice Tryd.underlying24 rfl) ?_
    refine x_ifb [] rfl rfl rfl rfl rfl (fun hg => by obtain ⟨hg0, _⟩ := hg; subst hg0; (try simp only [List.cons_append, List.nil_append, gvl_nil, gvl_t, gvl_f]); exact v_lss rfl rfl) ?_
    intro b40 hb40
    refine x_bool rfl rfl rfl (v_and rfl rfl) ?_
    intro b41 hb41
    refine x_val rfl rfl rfl (v_move rfl) ?_
    refine x_if [] rfl rfl rfl rfl rfl (fun hg => by obtain ⟨hg0, _⟩ := hg; subst hg0; (try simp only [List.cons_append, List.nil_append, gvl_nil, gvl_t, gvl_f]); exact v_move rfl) ?_
    refine x_ifb [] rfl rfl rfl rfl rfl (fun hg => by obtain ⟨hg0, _⟩ := hg; subst hg0; (try simp only [List.cons_append, List.nil_append, gvl_nil, gvl_t, gvl_f]); exact v_lss rfl rfl) ?_
    intro b44 hb44
    refine x_bool rfl rfl rfl (v_and rfl rfl) ?_
    intro b45 hb45
    refine x_end ?_
    refine t_norm ?_
    refine w_cond rfl (fun hc45 => ?_) (fun hc45 => ?_)
    · have hc3 : k < l.length ∧ j < (l.getD k []).length ∧ j < 12 := by
        rw [hb45, hb44, hb41, hb40, hb32] at hc45
        simp only [Bool.and_eq_true, decide_eq_true_eq] at hc45
        omega
      obtain ⟨hl1, hj1, hj2⟩ := hc3
      obtain ⟨hlA, _, hlc2, hrow⟩ := hlk hl1
      obtain ⟨b5, o5, hA5, _, hc5⟩ := b_at hrow hj1
      obtain ⟨cb, hcb⟩ : ∃ c, (l.getD k [])[j] = c := ⟨_, rfl⟩
      rw [hcb] at hc5
      have hlt8 := cb.toNat_lt
      have hstep : elsAt texts (l.getD k []) (j + 1) = stepEl texts xs cb := by rw [elsAt_succ hj1, hcb, hxs]
      refine w_skip ?_
      refine t_norm ?_
      refine w_seq ?_
      refine w_block ?_
      refine w_seq ?_
      refine rg_text ?_
      refine x_val rfl rfl rfl (v_move rfl) ?_
      refine x_val rfl rfl rfl (v_move rfl) ?_
      refine x_val rfl rfl rfl (v_indexAddr Tryd.underlying32 sz24 (congrArg (fun A => some (Value.slice A l.length lc)) hlA) rfl (by first | omega | (dsimp only; omega)) rfl) ?_
      refine x_val rfl rfl rfl (v_load Tryd.underlying24 rfl rfl (at_ro (.tail _ (.head _)) trivial (by rw [Nat.mul_one]; exact hlc2))) ?_
      refine x_val rfl rfl rfl (v_move rfl) ?_
      refine x_val rfl rfl rfl (v_indexAddr Tryd.underlying24 sz5 (congrArg (fun A => some (Value.slice A (l.getD k []).length rc)) hA5) rfl (by first | omega | (dsimp only; omega)) rfl) ?_
      refine x_val rfl rfl rfl (v_load Tryd.underlying5 rfl rfl (at_ro (.tail _ (.head _)) trivial (by rw [Nat.mul_one]; exact hc5))) ?_
      refine x_val (v := Value.int .i64 ((cb.toNat : Nat) : Int)) rfl rfl rfl (v_conv64 Tryd.underlying5 Tryd.underlying3 rfl (by omega)) ?_
      refine x_val rfl rfl rfl (v_assign rfl) ?_
      refine x_end ?_
      refine t_norm ?_
      refine w_seq ?_
      refine w_seq ?_
      refine rg_text ?_
      refine x_val rfl rfl rfl (v_move rfl) ?_
      refine x_val rfl rfl rfl (v_remN (a := cb.toNat) (b := 64) rfl rfl (by decide)) ?_
      refine x_bool rfl rfl rfl (v_eql rfl rfl) ?_
      intro b58 hb58
      refine x_end ?_
      refine t_norm ?_
      refine w_cond rfl (fun hc58 => ?_) (fun hc58 => ?_)
      · simp only [hb58, decide_eq_true_eq, decide_eq_false_iff_not, Bool.and_eq_true, Bool.or_eq_true, Bool.and_eq_false_iff, Bool.or_eq_false_iff, Bool.not_eq_true', Bool.not_eq_false', ne_eq, Decidable.not_not] at hc58
        have h63 : cb.toNat % 64 = 63 := by omega
        refine w_seq ?_
        refine rg_text ?_
        refine x_val rfl rfl rfl (v_fieldAddr (off' := 1) Tryd.underlying40 rfl sz38 (by decide) rfl rfl) ?_
        refine x_val rfl rfl rfl (v_load Tryd.underlying38 rfl rfl (at_ownL (vs := [Value.string tg, rowV R2 xs.length]) (List.mem_append_right _ (List.mem_append_right _ (.head _))) rfl)) ?_
        refine x_buildSliceL (cs := [Value.slice none 0 0]) rfl rfl rfl Tryd.underlying38 sz25 zr25 rfl rfl rfl ?_
        intro p61
        refine x_append (e := 25) [(p61, _)] (l2 := inO 9 S2 ++ ((p9, Obj.cells [Value.string tg, rowV R2 (xs.length)].toArray 40) :: rowO 40 R)) R2 (len := xs.length) (xs := ssC xs S2) rfl rfl rfl rfl rfl hS.row Tryd.underlying38 ap25 rfl rfl (m := 1) (news := [Value.slice none 0 0]) (fun i hi => at_ownL (vs := [Value.slice none 0 0]) (.head _) (by rw [Nat.zero_add]; exact List.getElem?_eq_getElem hi)) rfl (by simp only [maxLen]; omega) (by omega) ?_
        intro R' hR'
        refine x_val rfl rfl rfl (v_fieldAddr (off' := 1) Tryd.underlying40 rfl sz38 (by decide) rfl rfl) ?_
        refine x_store (cs := [Value.string tg, rowV R2 xs.length]) (off := 1) (e := 40) (l2 := rowO 40 R) ((p61, Obj.cells [Value.slice none 0 0].toArray 25) :: (rowO 25 R' ++ inO 9 S2)) rfl rfl rfl (by simp [List.append_assoc]) sz38 rfl (by show 2 ≤ 2; decide) ?_
        refine x_end ?_
        refine t_norm ?_
        refine w_exit ?_
        refine t_exit ?_
        refine b_hit ?_
        refine t_norm ?_
        refine rg_text ?_
        refine x_val rfl rfl rfl (v_move rfl) ?_
        refine x_val rfl rfl rfl (v_addi rfl rfl rfl (by first | omega | (dsimp only; omega))) ?_
        refine x_val rfl rfl rfl (v_assign rfl) ?_
        refine x_end ?_
        exact l_norm (j + 1, xs ++ [[]], R', S2 ++ [none]) ⟨by dsimp only; omega, by dsimp only; omega, by dsimp only; rw [hstep]; unfold stepEl; rw [if_pos h63], hS.snoc hR' rowOK_nil, by dsimp only; rw [List.length_append, List.length_singleton]; omega, fun y hy => by rcases List.mem_append.1 hy with h | h; (· have := hz2 y h; exact ⟨by dsimp only; omega, this.2⟩); rw [List.mem_singleton.1 h]; exact ⟨Nat.zero_le _, fun t ht => by cases ht⟩⟩ (by simp only; omega) (by repeat (first | exact Sub.nil | refine Sub.cons rfl ?_)) (fun w1 h => (h.less (List.sublist_cons_self _ _) (fun _ h => h)).to (by simp [inO_snoc, List.append_assoc, rowO] <;> rfl))
      · simp only [hb58, decide_eq_true_eq, decide_eq_false_iff_not, Bool.and_eq_true, Bool.or_eq_true, Bool.and_eq_false_iff, Bool.or_eq_false_iff, Bool.not_eq_true', Bool.not_eq_false', ne_eq, Decidable.not_not] at hc58
        have h63 : ¬cb.toNat % 64 = 63 := by omega
        refine w_skip ?_
        refine t_norm ?_
        refine w_seq_cut (σ := List (List ByteArray) × RowS × List RowS) (fun q => q.1 = (if xs.length = 0 ∨ cb.toNat % 4 = 0 then xs ++ [[]] else xs) ∧ q.1 ≠ [] ∧ SSOK q.2.1 q.2.2 q.1 ∧ q.1.length ≤ j + 1 ∧ ∀ y ∈ q.1, y.length ≤ j ∧ ∀ t ∈ y, okS t) (fun q => [(0, Value.slice tA tags.length tc), (1, Value.slice xA texts.length xc), (2, Value.slice lA l.length lc), (7, rowV R k), (8, Value.int .i64 (k : Nat)), (9, Value.pointer (some ⟨p9, 0, none⟩)), (10, Value.int .i64 (j : Nat)), (11, Value.int .i64 ((cb.toNat : Nat) : Int))]) (fun q => rowO 25 q.2.1 ++ (inO 9 q.2.2 ++ ((p9, Obj.cells [Value.string tg, rowV q.2.1 (q.1.length)].toArray 40) :: rowO 40 R))) (fun q => (ws, notOwn (rowO 40 R)) :: [(w, fun _ => True)]) ?_ ?_
        · refine w_seq ?_
          refine rg_text ?_
          refine x_val rfl rfl rfl (v_fieldAddr (off' := 1) Tryd.underlying40 rfl sz38 (by decide) rfl rfl) ?_
          refine x_val rfl rfl rfl (v_load Tryd.underlying38 rfl rfl (at_ownL (vs := [Value.string tg, rowV R2 xs.length]) (List.mem_append_right _ (List.mem_append_right _ (.head _))) rfl)) ?_
          refine x_val rfl rfl rfl (v_len_slice Tryd.underlying38 rfl) ?_
          refine x_bool rfl rfl rfl (v_eql rfl rfl) ?_
          intro b67 hb67
          refine x_val rfl rfl rfl (v_move rfl) ?_
          refine x_if [] rfl rfl rfl rfl rfl (fun hg => by obtain ⟨hg0, _⟩ := hg; subst hg0; (try simp only [List.cons_append, List.nil_append, gvl_nil, gvl_t, gvl_f]); exact v_move rfl) ?_
          refine x_if [] rfl rfl rfl rfl rfl (v := Value.int .i64 ((cb.toNat % 4 : Nat) : Int)) (fun hg => by obtain ⟨hg0, _⟩ := hg; subst hg0; (try simp only [List.cons_append, List.nil_append, gvl_nil, gvl_t, gvl_f]); exact v_remN (a := cb.toNat) (b := 4) rfl rfl (by decide)) ?_
          refine x_ifb [] rfl rfl rfl rfl rfl (fun hg => by obtain ⟨hg0, _⟩ := hg; subst hg0; (try simp only [List.cons_append, List.nil_append, gvl_nil, gvl_t, gvl_f]); exact v_eql rfl rfl) ?_
          intro b71 hb71
          refine x_bool rfl rfl rfl (v_or rfl rfl) ?_
          intro b72 hb72
          refine x_end ?_
          refine t_norm ?_
          refine w_cond rfl (fun hc72 => ?_) (fun hc72 => ?_)
          · simp only [hb72, hb71, hb67, decide_eq_true_eq, decide_eq_false_iff_not, Bool.and_eq_true, Bool.or_eq_true, Bool.and_eq_false_iff, Bool.or_eq_false_iff, Bool.not_eq_true', Bool.not_eq_false', ne_eq, Decidable.not_not] at hc72
            have hcn : xs.length = 0 ∨ cb.toNat % 4 = 0 := by omega
            refine rg_text ?_
            refine x_val rfl rfl rfl (v_fieldAddr (off' := 1) Tryd.underlying40 rfl sz38 (by decide) rfl rfl) ?_
            refine x_val rfl rfl rfl (v_load Tryd.underlying38 rfl rfl (at_ownL (vs := [Value.string tg, rowV R2 xs.length]) (List.mem_append_right _ (List.mem_append_right _ (.head _))) rfl)) ?_
            refine x_buildSliceL (cs := [Value.slice none 0 0]) rfl rfl rfl Tryd.underlying38 sz25 zr25 rfl rfl rfl ?_
            intro p75
            refine x_append (e := 25) [(p75, _)] (l2 := inO 9 S2 ++ ((p9, Obj.cells [Value.string tg, rowV R2 (xs.length)].toArray 40) :: rowO 40 R)) R2 (len := xs.length) (xs := ssC xs S2) rfl rfl rfl rfl rfl hS.row Tryd.underlying38 ap25 rfl rfl (m := 1) (news := [Value.slice none 0 0]) (fun i hi => at_ownL (vs := [Value.slice none 0 0]) (.head _) (by rw [Nat.zero_add]; exact List.getElem?_eq_getElem hi)) rfl (by simp only [maxLen]; omega) (by omega) ?_
            intro R' hR'
            refine x_val rfl rfl rfl (v_fieldAddr (off' := 1) Tryd.underlying40 rfl sz38 (by decide) rfl rfl) ?_
            refine x_store (cs := [Value.string tg, rowV R2 xs.length]) (off := 1) (e := 40) (l2 := rowO 40 R) ((p75, Obj.cells [Value.slice none 0 0].toArray 25) :: (rowO 25 R' ++ inO 9 S2)) rfl rfl rfl (by simp [List.append_assoc]) sz38 rfl (by show 2 ≤ 2; decide) ?_
            refine x_end ?_
            exact c_norm (xs ++ [[]], R', S2 ++ [none]) (⟨by rw [if_pos hcn], by simp, hS.snoc hR' rowOK_nil, by dsimp only; rw [List.length_append, List.length_singleton]; omega, fun y hy => by rcases List.mem_append.1 hy with h | h; (· exact hz2 y h); rw [List.mem_singleton.1 h]; exact ⟨Nat.zero_le _, fun t ht => by cases ht⟩⟩) (by repeat (first | exact Sub.nil | refine Sub.cons rfl ?_)) (fun w1 h => (h.less (List.sublist_cons_self _ _) (fun _ h => h)).to (by simp [inO_snoc, List.append_assoc, rowO] <;> rfl))
          · simp only [hb72, hb71, hb67, decide_eq_true_eq, decide_eq_false_iff_not, Bool.and_eq_true, Bool.or_eq_true, Bool.and_eq_false_iff, Bool.or_eq_false_iff, Bool.not_eq_true', Bool.not_eq_false', ne_eq, Decidable.not_not] at hc72
            have hcn : ¬(xs.length = 0 ∨ cb.toNat % 4 = 0) := by omega
            refine w_skip ?_
            exact c_norm (xs, R2, S2) (⟨by rw [if_neg hcn], fun h => hcn (.inl (by have h : xs = [] := h; rw [h]; rfl)), hS, by dsimp only; omega, hz2⟩) (by repeat (first | exact Sub.nil | refine Sub.cons rfl ?_)) (fun _ h => h)
        · rintro ⟨zs, R3, S3⟩ ⟨hzs, hzn, hS3, hy1, hy2⟩
          refine w_state ([(0, Value.slice tA tags.length tc), (1, Value.slice xA texts.length xc), (2, Value.slice lA l.length lc), (7, rowV R k), (8, Value.int .i64 (k : Nat)), (9, Value.pointer (some ⟨p9, 0, none⟩)), (10, Value.int .i64 (j : Nat)), (11, Value.int .i64 ((cb.toNat : Nat) : Int))]) (rowO 25 R3 ++ (inO 9 S3 ++ ((p9, Obj.cells [Value.string tg, rowV R3 (zs.length)].toArray 40) :: rowO 40 R))) ((ws, notOwn (rowO 40 R)) :: [(w, fun _ => True)]) ?_
          dsimp only at hzs hzn hS3 hy1 hy2
          refine w_seq ?_
          refine rg_text ?_
          refine x_val rfl rfl rfl (v_assign rfl) ?_
          refine x_end ?_
          refine t_norm ?_
          refine w_seq_cut (σ := Unit) (fun q => True) (fun q => [(0, Value.slice tA tags.length tc), (1, Value.slice xA texts.length xc), (2, Value.slice lA l.length lc), (7, rowV R k), (8, Value.int .i64 (k : Nat)), (9, Value.pointer (some ⟨p9, 0, none⟩)), (10, Value.int .i64 (j : Nat)), (11, Value.int .i64 ((cb.toNat : Nat) : Int)), (12, Value.string (textAt texts cb))]) (fun q => rowO 25 R3 ++ (inO 9 S3 ++ ((p9, Obj.cells [Value.string tg, rowV R3 (zs.length)].toArray 40) :: rowO 40 R))) (fun q => (ws, notOwn (rowO 40 R)) :: [(w, fun _ => True)]) ?_ ?_
          · refine w_seq ?_
            refine rg_text ?_
            refine x_val rfl rfl rfl (v_move rfl) ?_
            refine x_val rfl rfl rfl (v_len_slice Tryd.underlying25 rfl) ?_
            refine x_bool rfl rfl rfl (v_gtr rfl rfl) ?_
            intro b80 hb80
            refine x_end ?_
            refine t_norm ?_
            refine w_cond rfl (fun hc80 => ?_) (fun hc80 => ?_)
            · simp only [hb80, decide_eq_true_eq, decide_eq_false_iff_not, Bool.and_eq_true, Bool.or_eq_true, Bool.and_eq_false_iff, Bool.or_eq_false_iff, Bool.not_eq_true', Bool.not_eq_false', ne_eq, Decidable.not_not] at hc80
              have hxl : 0 < texts.length := by omega
              have hti : cb.toNat / 4 % texts.length < texts.length := Nat.mod_lt _ hxl
              obtain ⟨xb, xo, hxA, _, hxc, _⟩ := s_at hx hti
              refine rg_text ?_
              refine x_val rfl rfl rfl (v_move rfl) ?_
              refine x_val rfl rfl rfl (v_move rfl) ?_
              refine x_val rfl rfl rfl (v_quoN (a := cb.toNat) (b := 4) rfl rfl (by decide) (by omega)) ?_
              refine x_val rfl rfl rfl (v_move rfl) ?_
              refine x_val rfl rfl rfl (v_len_slice Tryd.underlying25 rfl) ?_
              refine x_val rfl rfl rfl (v_remN (a := cb.toNat / 4) (b := texts.length) rfl rfl (by omega)) ?_
              refine x_val rfl rfl rfl (v_indexAddr Tryd.underlying25 sz9 (congrArg (fun A => some (Value.slice A texts.length xc)) hxA) rfl (hti) rfl) ?_
              refine x_val rfl rfl rfl (v_load Tryd.underlying9 rfl rfl (at_ro (.tail _ (.head _)) trivial (by rw [Nat.mul_one]; exact hxc))) ?_
              refine x_val rfl rfl rfl (v_assign rfl) ?_
              refine x_end ?_
              exact c_norm () (trivial) (by unfold textAt; rw [getD_at hti]; repeat (first | exact Sub.nil | refine Sub.cons rfl ?_)) (fun _ h => h)
            · simp only [hb80, decide_eq_true_eq, decide_eq_false_iff_not, Bool.and_eq_true, Bool.or_eq_true, Bool.and_eq_false_iff, Bool.or_eq_false_iff, Bool.not_eq_true', Bool.not_eq_false', ne_eq, Decidable.not_not] at hc80
              have hxl : texts.length = 0 := by omega
              refine w_skip ?_
              exact c_norm () (trivial) (by unfold textAt; rw [getD_no (by omega)]; repeat (first | exact Sub.nil | refine Sub.cons rfl ?_)) (fun _ h => h)
          · rintro _ _
            obtain ⟨ys, y, Ts, S, bb, cs, cp, rfl, rfl, rfl⟩ := hS3.last hzn
            rw [inO_snoc, List.append_assoc]
            obtain ⟨hla, hlt⟩ := hS3.lastAt
            have hyl := hy2 y (by simp)
            have hzl : ys.length + 1 ≤ j + 1 := by simpa using hy1
            have htx : okS (textAt texts cb) := textAt_ok (all_ok hx) cb
            refine w_seq ?_
            refine rg_text ?_
            refine x_val rfl rfl rfl (v_fieldAddr Tryd.underlying40 rfl sz38 (by decide) rfl rfl) ?_
            refine x_val rfl rfl rfl (v_load Tryd.underlying38 rfl rfl (at_ownL (vs := [Value.string tg, rowV (some (bb, cs, cp)) (ys ++ [y]).length]) (List.mem_append_right _ (List.mem_append_right _ (List.mem_append_right _ (.head _)))) rfl)) ?_
            refine x_val rfl rfl rfl (v_len_slice Tryd.underlying38 rfl) ?_
            refine x_val rfl rfl rfl (v_subi (c := (ys.length : Int)) rfl rfl (by simp only [List.length_append, List.length_singleton]; omega) (by omega)) ?_
            refine x_val rfl rfl rfl (v_assign rfl) ?_
            refine x_end ?_
            refine t_norm ?_
            refine rg_inv ([(bb, Obj.cells cs.toArray 25), (p9, Obj.cells [Value.string tg, rowV (some (bb, cs, cp)) ((ys ++ [y]).length)].toArray 40)]) 12 (.flt 0 (.flt 1 (.flt 2 (.flt 3 (.flt 4 (.flt 5 (.flt 6 (.flt 7 (.flt 8 (.gr 9 (.gr 10 (.flt 11 .done) .nil) .nil)))))))))) (.cons_cons _ ((List.Sublist.cons_cons _ (List.nil_sublist _)).trans ((List.sublist_append_right _ _).trans (List.sublist_append_right _ _)))) (by kernel_rfl) (by kernel_rfl) ?_
            refine j_val rfl rfl (v_fieldAddr Tryd.underlying40 rfl sz38 (by decide) rfl rfl) ?_
            refine j_val rfl rfl (v_load Tryd.underlying38 rfl rfl (at_ownL (vs := [Value.string tg, rowV (some (bb, cs, cp)) (ys ++ [y]).length]) (.tail _ (.head _)) rfl)) ?_
            refine j_val rfl rfl (v_move rfl) ?_
            refine j_val rfl rfl (v_fieldAddr Tryd.underlying40 rfl sz38 (by decide) rfl rfl) ?_
            refine j_val rfl rfl (v_load Tryd.underlying38 rfl rfl (at_ownL (vs := [Value.string tg, rowV (some (bb, cs, cp)) (ys ++ [y]).length]) (.tail _ (.head _)) rfl)) ?_
            refine j_val rfl rfl (v_move rfl) ?_
            refine j_val rfl rfl (v_indexAddr Tryd.underlying38 sz25 rfl rfl (by simp only [List.length_append, List.length_singleton]; omega) rfl) ?_
            refine j_val rfl rfl (v_load Tryd.underlying25 rfl rfl (at_ownL (vs := cs) (.head _) (show cs[0 + ys.length * 1]? = some (rowV S y.length) from by rw [Nat.mul_one, Nat.zero_add]; exact hla))) ?_
            refine j_val rfl rfl (v_move rfl) ?_
            refine j_gr ?_ j_nil
            refine x_buildSliceL rfl rfl rfl Tryd.underlying25 sz9 zr9 rfl rfl rfl ?_
            intro p102
            refine x_end ?_
            refine j_end (.cons _ (.cons_cons _ ((List.Sublist.cons_cons _ (List.nil_sublist _)).trans ((List.sublist_append_right _ _).trans (List.sublist_append_right _ _))))) ?_
            refine j_gr ?_ j_nil
            refine x_append (e := 9) [(p102, _), (bb, .cells cs.toArray 25 (0, 0))] (l2 := inO 9 Ts ++ ((p9, Obj.cells [Value.string tg, rowV (some (bb, cs, cp)) ((ys ++ [y]).length)].toArray 40) :: rowO 40 R)) S (len := y.length) (xs := y.map Value.string) rfl rfl rfl rfl rfl hS3.lastOK Tryd.underlying25 ap9 rfl rfl (m := 1) (news := [Value.string (textAt texts cb)]) (fun i hi => at_ownL (vs := [Value.string (textAt texts cb)]) (.head _) (by rw [Nat.zero_add]; exact List.getElem?_eq_getElem hi)) rfl (by simp only [maxLen]; omega) (by omega) ?_
            intro S' hS'
            refine x_end ?_
            refine j_end (.cons _ (.cons_cons _ ((List.Sublist.cons_cons _ (List.nil_sublist _)).trans ((List.sublist_append_right _ _).trans (List.sublist_append_right _ _))))) ?_
            refine j_val rfl rfl (v_indexAddr Tryd.underlying38 sz25 rfl rfl (by simp only [List.length_append, List.length_singleton]; omega) rfl) ?_
            refine j_done ?_
            refine x_store (cs := cs) (off := 0 + ys.length * 1) [(p102, _)] rfl rfl rfl rfl sz25 rfl (by rw [Nat.mul_one, Nat.zero_add]; omega) ?_
            rw [show 0 + ys.length * 1 = ys.length by omega, put_cell hlt]
            refine x_end ?_
            refine b_norm ?_
            refine t_norm ?_
            refine rg_text ?_
            refine x_val rfl rfl rfl (v_move rfl) ?_
            refine x_val rfl rfl rfl (v_addi rfl rfl rfl (by first | omega | (dsimp only; omega))) ?_
            refine x_val rfl rfl rfl (v_assign rfl) ?_
            refine x_end ?_
            have hS4 : SSOK (some (bb, cs.set ys.length (rowV S' (y.length + 1)), cp)) (Ts ++ [S']) (ys ++ [y ++ [textAt texts cb]]) := by have h := hS3.setlast (S' := S') (y' := y ++ [textAt texts cb]) (by simpa using hS'); simpa using h
            refine l_norm (j + 1, ys ++ [y ++ [textAt texts cb]], some (bb, cs.set ys.length (rowV S' (y.length + 1)), cp), Ts ++ [S']) ⟨by dsimp only; omega, by dsimp only; omega, by dsimp only; rw [hstep]; unfold stepEl; rw [if_neg h63, ← hzs, addLast_snoc], hS4, by dsimp only; rw [List.length_append, List.length_singleton]; omega, fun y' hy' => ?_⟩ (by simp only; omega) (by repeat (first | exact Sub.nil | refine Sub.cons rfl ?_)) (fun w1 h => (h.less (List.sublist_cons_self _ _) (fun _ h => h)).to (by simp [inO_snoc, List.append_assoc, rowO, rowV, rowA, rowC] <;> rfl))
            rcases List.mem_append.1 hy' with h | h
            · obtain ⟨q1, q2⟩ := hy2 y' (List.mem_append_left _ h); exact ⟨by dsimp only; omega, q2⟩
            · rw [List.mem_singleton.1 h]; refine ⟨by dsimp only; rw [List.length_append, List.length_singleton]; omega, fun t ht => ?_⟩
              rcases List.mem_append.1 ht with ht | ht
              · exact hyl.2 t ht
              · rw [List.mem_singleton.1 ht]; exact htx
    · have hend : j = (l.getD k []).length ∨ j = 12 := by
        by_cases h1 : k < l.length
        · rw [hb45, hb44, hb41, hb40, hb32] at hc45
          simp only [Bool.and_eq_false_iff, decide_eq_false_iff_not] at hc45
          omega
        · have h2 : (l.getD k []).length = 0 := by rw [getD_no h1]; rfl
          omega
      have hxs2 : xs = elsAt texts (l.getD k []) 12 := by rw [hxs, els_all hend hj12]
      obtain ⟨css, hcl, hrw, hrd⟩ := hT
      rw [segsK_len] at hcl hrw
      refine w_exit ?_
      refine t_exit ?_
      refine t_exit ?_
      refine b_hit ?_
      refine t_norm ?_
      refine rg_text ?_
      refine x_val rfl rfl rfl (v_move rfl) ?_
      refine x_val rfl rfl rfl (v_load_blk (e := 40) (fz := (0, 0)) (cs := [Value.string tg, rowV R2 xs.length].toArray) Tryd.underlying40 rfl rfl (List.mem_append_right _ (List.mem_append_right _ (.head _))) sz40) ?_
      refine x_buildSliceL (cs := [Value.string tg, rowV R2 xs.length]) rfl rfl rfl Tryd.underlying26 sz40 zr40 rfl rfl rfl ?_
      intro p107
      refine x_append (e := 40) ((p107, Obj.cells [Value.string tg, rowV R2 xs.length].toArray 40) :: (rowO 25 R2 ++ (inO 9 S2 ++ [(p9, Obj.cells [Value.string tg, rowV R2 (xs.length)].toArray 40)]))) (l2 := []) R (len := k) (xs := css.flatten) rfl rfl rfl rfl (by simp [List.append_assoc]) hrw Tryd.underlying26 ap40 rfl rfl (m := 1) (news := [Value.string tg, rowV R2 xs.length]) (fun i hi => at_ownL (vs := [Value.string tg, rowV R2 xs.length]) (.head _) (by rw [Nat.zero_add]; exact List.getElem?_eq_getElem hi)) rfl (by simp only [maxLen]; omega) (by omega) ?_
      intro R' hR'
      refine x_val rfl rfl rfl (v_assign rfl) ?_
      refine x_end ?_
      refine b_norm ?_
      refine t_norm ?_
      refine rg_text ?_
      refine x_val rfl rfl rfl (v_move rfl) ?_
      refine x_val rfl rfl rfl (v_addi rfl rfl rfl (by first | omega | (dsimp only; omega))) ?_
      refine x_val rfl rfl rfl (v_assign rfl) ?_
      refine x_end ?_
      rw [List.append_nil]
      have hsub : (rowO 40 R').Sublist (((p107, Obj.cells [Value.string tg, rowV R2 xs.length].toArray 40) :: (rowO 25 R2 ++ (inO 9 S2 ++ [(p9, Obj.cells [Value.string tg, rowV R2 (xs.length)].toArray 40)]))) ++ rowO 40 R') := List.sublist_append_right _ _
      refine s_fix (rowO 40 R') hsub (fun w0 hm0 => ?_)
      have hnw : ∀ q, q ∈ ((p107, Obj.cells [Value.string tg, rowV R2 xs.length].toArray 40) :: (rowO 25 R2 ++ (inO 9 S2 ++ [(p9, Obj.cells [Value.string tg, rowV R2 (xs.length)].toArray 40)]))) → newD w (rowO 40 R') q.1 := fun q hq => ⟨hm0.newer (by simp) (List.mem_append_left _ hq), hm0.notIn (List.Sublist.refl _) hq⟩
      have hsl : sliceRd (tySlice tyStr) (newD w (rowO 40 R')) w0 (rowV R2 xs.length) xs := hS.rd (eR := 25) (eS := 9) rfl (fun q hq t ht => (hz2 q hq).2 t ht) hm0 (fun q hq => List.mem_append_left _ (List.mem_cons_of_mem _ (List.mem_append_left _ hq))) (fun q hq => List.mem_append_left _ (List.mem_cons_of_mem _ (List.mem_append_right _ (List.mem_append_left _ hq)))) (fun q hq => hnw q (List.mem_cons_of_mem _ (List.mem_append_left _ hq))) (fun q hq => hnw q (List.mem_cons_of_mem _ (List.mem_append_right _ (List.mem_append_left _ hq))))
      have hT' := snocN (T := tySeg) (D := newD w (rowO 40 R')) (ws := w0) (x := ⟨tg, xs⟩) (segsK_len tags texts l k) hcl (fun j h1 h2 => tySeg.keep (hrd j h1 h2) (Kept.frz hm0 hsub (by simp))) hR' (tySeg_mk rfl htok hsl)
      exact l_norm (x := (k, R, ws)) (μ := fun q : Nat × RowS × World => 10 - q.1) (k + 1, R', w0) ⟨by dsimp only; omega, by dsimp only; omega, by dsimp only; rw [segsK_succ]; unfold segAt; rw [getD_at hk1, htg, ← hxs2]; exact hT'⟩ (by simp only; omega) (by repeat (first | exact Sub.nil | refine Sub.cons rfl ?_)) (fun w1 h => h.less (List.Sublist.refl _) (fun q hq => by simp at hq ⊢; rcases hq with h | h; (· exact .inl h); simp [h]))
  · simp only [hb21, hb20, hb17, decide_eq_true_eq, decide_eq_false_iff_not, Bool.and_eq_true, Bool.or_eq_true, Bool.and_eq_false_iff, Bool.or_eq_false_iff, Bool.not_eq_true', Bool.not_eq_false', ne_eq, Decidable.not_not] at hc21
    have hke : k = min tags.length 10 := by
      rw [Nat.min_def]
      rcases hc21 with h | h <;> (split <;> omega)
    refine w_exit ?_
    refine t_exit ?_
    refine t_exit ?_
    refine b_hit ?_
    refine t_norm ?_
    refine w_seq ?_
    refine rg_text ?_
    refine x_val rfl rfl rfl (v_move rfl) ?_
    refine x_val rfl rfl rfl (v_assign rfl) ?_
    refine x_end ?_
    refine t_norm ?_
    refine w_ret ?_
    refine ret1 rfl rfl (fun w' hm => ⟨_, rfl, hm.base (by simp), ?_⟩)
    unfold segsP
    rw [← hke]
    exact (hT.keep (Kept.frz hm (List.Sublist.refl _) (.head _))).rd (e := 40) hm (fun q hq => hq) (fun _ h => h.1) (fun q hq => hm.newer (by simp) hq) (segsK_len _ _ _ _).symm

end Go.Proofs.YtbamklefagghcaaDoor

namespace Go.Proofs.YtbamklefagghcaaDoor
open Go.RowKit Go.PK
set_option linter.unusedVariables false
set_option linter.unusedSimpArgs false
theorem egO_ok : egO.ok := by unfold Ord.ok in64; decide
set_option maxHeartbeats 1000000 in
set_option maxRecDepth 100000 in
theorem c_sanity (w : World) (hL : LD w) :
    Calls Tryd.prog 6 #[] w fun e w' => e = .returned (.bool (true)) ∧ Later w w' := by
  refine enter (vs := []) Tryd.func6 rfl Tryd.ntmps6 rfl ?_
  refine w_seq ?_
  refine rg_text ?_
  refine x_val rfl rfl rfl (v_assign rfl) ?_
  refine x_end ?_
  refine t_norm ?_
  refine w_seq ?_
  refine rg_text ?_
  refine x_call (R := fun v wa wb => ∃ A c, v = .tuple #[.slice A (parR ⟨#[65, 66, 67, 43, 97, 58, 98, 43, 63, 43, 39]⟩).1.length c, .int .i64 (parR ⟨#[65, 66, 67, 43, 97, 58, 98, 43, 63, 43, 39]⟩).2.1, .int .i64 (parR ⟨#[65, 66, 67, 43, 97, 58, 98, 43, 63, 43, 39]⟩).2.2] ∧ sliceRd tySeg (fun b => wa.heap.size ≤ b) wb (.slice A (parR ⟨#[65, 66, 67, 43, 97, 58, 98, 43, 63, 43, 39]⟩).1.length c) (parR ⟨#[65, 66, 67, 43, 97, 58, 98, 43, 63, 43, 39]⟩).1) rfl rfl rfl Tryd.func7 (by kernel_rfl) rfl (fun w1 hw1 => (c_Parse ⟨#[65, 66, 67, 43, 97, 58, 98, 43, 63, 43, 39]⟩ w1 (by decide)).mono fun e w2 ⟨v, h1, h2, h3⟩ => by obtain ⟨A, c, rfl, _⟩ := id h3; exact ⟨_, h1, h2, A, c, rfl, h3⟩) ?_
  intro v13 wa13 wb13 hm13 hl13 hR13
  obtain ⟨A13, c13, rfl, hp13⟩ := hR13
  refine x_val rfl rfl rfl (v_move rfl) ?_
  refine x_val rfl rfl rfl (v_extract rfl rfl) ?_
  refine x_val rfl rfl rfl (v_extract rfl rfl) ?_
  refine x_val rfl rfl rfl (v_extract rfl rfl) ?_
  refine x_val rfl rfl rfl (v_assign rfl) ?_
  refine x_val rfl rfl rfl (v_assign rfl) ?_
  refine x_val rfl rfl rfl (v_assign rfl) ?_
  refine x_end ?_
  refine t_norm ?_
  refine w_seq ?_
  refine rg_text ?_
  refine x_call (R := fun v wa wb => ∃ A c, v = .tuple #[.slice A (parR ⟨#[85, 78, 65, 42, 35, 46, 33, 32, 126, 65, 66, 67, 35, 120, 33, 35, 42, 121, 126]⟩).1.length c, .int .i64 (parR ⟨#[85, 78, 65, 42, 35, 46, 33, 32, 126, 65, 66, 67, 35, 120, 33, 35, 42, 121, 126]⟩).2.1, .int .i64 (parR ⟨#[85, 78, 65, 42, 35, 46, 33, 32, 126, 65, 66, 67, 35, 120, 33, 35, 42, 121, 126]⟩).2.2] ∧ sliceRd tySeg (fun b => wa.heap.size ≤ b) wb (.slice A (parR ⟨#[85, 78, 65, 42, 35, 46, 33, 32, 126, 65, 66, 67, 35, 120, 33, 35, 42, 121, 126]⟩).1.length c) (parR ⟨#[85, 78, 65, 42, 35, 46, 33, 32, 126, 65, 66, 67, 35, 120, 33, 35, 42, 121, 126]⟩).1) rfl rfl rfl Tryd.func7 (by kernel_rfl) rfl (fun w1 hw1 => (c_Parse ⟨#[85, 78, 65, 42, 35, 46, 33, 32, 126, 65, 66, 67, 35, 120, 33, 35, 42, 121, 126]⟩ w1 (by decide)).mono fun e w2 ⟨v, h1, h2, h3⟩ => by obtain ⟨A, c, rfl, _⟩ := id h3; exact ⟨_, h1, h2, A, c, rfl, h3⟩) ?_
  intro v18 wa18 wb18 hm18 hl18 hR18
  obtain ⟨A18, c18, rfl, hp18⟩ := hR18
  refine x_val rfl rfl rfl (v_move rfl) ?_
  refine x_val rfl rfl rfl (v_extract rfl rfl) ?_
  refine x_val rfl rfl rfl (v_extract rfl rfl) ?_
  refine x_val rfl rfl rfl (v_extract rfl rfl) ?_
  refine x_val rfl rfl rfl (v_assign rfl) ?_
  refine x_val rfl rfl rfl (v_assign rfl) ?_
  refine x_val rfl rfl rfl (v_assign rfl) ?_
  refine x_end ?_
  refine t_norm ?_
  refine w_seq ?_
  refine rg_text ?_
  refine x_buildSliceL (cs := [Value.string ⟨#[105, 116, 39, 115]⟩]) rfl rfl rfl Tryd.underlying25 sz9 zr9 rfl rfl rfl ?_
  intro p23
  refine x_buildSliceL (cs := [.slice (some ⟨p23, 0, none⟩) 1 1]) rfl rfl rfl Tryd.underlying38 sz25 zr25 rfl rfl rfl ?_
  intro p24
  refine x_val rfl rfl rfl (v_buildL (places := [(0, 1), (1, 1)]) Tryd.underlying40 zr40 (by kernel_rfl) rfl rfl) ?_
  refine x_buildSliceL (cs := [Value.string ⟨#[65, 66, 67]⟩, .slice (some ⟨p24, 0, none⟩) 1 1]) rfl rfl rfl Tryd.underlying26 sz40 zr40 rfl rfl rfl ?_
  intro p26
  refine x_callv rfl rfl rfl Tryd.func11 (by kernel_rfl) rfl (fun w1 hw1 => c_Write (l := [egC]) w1 (lits_own (T := tySeg) (D := fun _ => True) (e := 40) (b := p26) [[Value.string ⟨#[65, 66, 67]⟩, .slice (some ⟨p24, 0, none⟩) 1 1]] (xs := [egC]) hw1 (by repeat (first | exact List.Mem.head _ | apply List.Mem.tail)) rfl (by decide) trivial ⟨tySeg_mk rfl (okS_small (by decide)) (lits_own (T := tySlice tyStr) (D := fun _ => True) (e := 25) (b := p24) [[Value.slice (some ⟨p23, 0, none⟩) 1 1]] (xs := [[⟨#[105, 116, 39, 115]⟩]]) hw1 (by repeat (first | exact List.Mem.head _ | apply List.Mem.tail)) rfl (by decide) trivial ⟨⟨_, rfl, (lits_own (T := tyStr) (D := fun _ => True) (e := 9) (b := p23) [[Value.string ⟨#[105, 116, 39, 115]⟩]] (xs := [⟨#[105, 116, 39, 115]⟩]) hw1 (by repeat (first | exact List.Mem.head _ | apply List.Mem.tail)) rfl (by decide) trivial ⟨⟨rfl, okS_small (by decide)⟩, trivial⟩)⟩, trivial⟩), trivial⟩) ex_wl) ?_
  refine x_val rfl rfl rfl (v_move rfl) ?_
  refine x_val rfl rfl rfl (v_extract rfl rfl) ?_
  refine x_val rfl rfl rfl (v_extract rfl rfl) ?_
  refine x_val rfl rfl rfl (v_assign rfl) ?_
  refine x_val rfl rfl rfl (v_assign rfl) ?_
  refine x_end ?_
  refine t_norm ?_
  refine w_seq ?_
  refine rg_text ?_
  refine x_val rfl rfl rfl (v_buildL (places := [(0, 1), (1, 1)]) Tryd.underlying43 zr43 (by kernel_rfl) rfl rfl) ?_
  refine x_val rfl rfl rfl (v_buildL (places := [(0, 1), (1, 1), (2, 2), (4, 1), (5, 1), (6, 1), (7, 1), (8, 1)]) Tryd.underlying45 zr45 (by kernel_rfl) rfl rfl) ?_
  refine x_alloc rfl rfl rfl zr45 ?_
  intro p9
  refine x_store0 [] rfl rfl rfl rfl sz45 rfl rfl ?_
  refine x_end ?_
  refine t_norm ?_
  refine w_seq ?_
  refine rg_text ?_
  refine x_val rfl rfl rfl (v_load_blk (e := 45) (fz := (0, 0)) (cs := egO.cells.toArray) Tryd.underlying45 rfl rfl (.head _) sz45) ?_
  refine x_call (R := fun v wa wb => sliceRd tySeg (fun b => wa.heap.size ≤ b) wb v (orderR egO)) rfl rfl rfl Tryd.func13 (by kernel_rfl) rfl (fun w1 hw1 => (c_Order egO w1 egO_ok (hL.later (hw1.base (by simp)))).mono fun e w2 ⟨v, h1, h2, h3⟩ => ⟨_, h1, h2, h3⟩) ?_
  intro v34 wa34 wb34 hm34 hl34 hR34
  refine x_callv rfl rfl rfl Tryd.func11 (by kernel_rfl) rfl (fun w1 hw1 => c_Write (l := orderR egO) w1 (keep_new hR34 hw1 (by repeat (first | exact List.Mem.head _ | apply List.Mem.tail)) hm34) ex_ol) ?_
  refine x_val rfl rfl rfl (v_move rfl) ?_
  refine x_val rfl rfl rfl (v_extract rfl rfl) ?_
  refine x_val rfl rfl rfl (v_extract rfl rfl) ?_
  refine x_val rfl rfl rfl (v_assign rfl) ?_
  refine x_val rfl rfl rfl (v_assign rfl) ?_
  refine x_end ?_
  refine t_norm ?_
  refine w_seq ?_
  refine rg_text ?_
  refine x_val rfl rfl rfl (v_move rfl) ?_
  refine x_buildSliceL (cs := [Value.string ⟨#[97]⟩, Value.string ⟨#[98]⟩]) rfl rfl rfl Tryd.underlying25 sz9 zr9 rfl rfl rfl ?_
  intro p39
  refine x_buildSliceL (cs := [Value.string ⟨#[43]⟩]) rfl rfl rfl Tryd.underlying25 sz9 zr9 rfl rfl rfl ?_
  intro p40
  refine x_buildSliceL (cs := [.slice (some ⟨p39, 0, none⟩) 2 2, .slice (some ⟨p40, 0, none⟩) 1 1]) rfl rfl rfl Tryd.underlying38 sz25 zr25 rfl rfl rfl ?_
  intro p41
  refine x_val rfl rfl rfl (v_buildL (places := [(0, 1), (1, 1)]) Tryd.underlying40 zr40 (by kernel_rfl) rfl rfl) ?_
  refine x_buildSliceL (cs := [Value.string ⟨#[65, 66, 67]⟩, .slice (some ⟨p41, 0, none⟩) 2 2]) rfl rfl rfl Tryd.underlying26 sz40 zr40 rfl rfl rfl ?_
  intro p43
  refine x_callb rfl rfl rfl Tryd.func9 (by kernel_rfl) rfl (fun w1 hw1 => c_Same (xs := (parR ⟨#[65, 66, 67, 43, 97, 58, 98, 43, 63, 43, 39]⟩).1) (ys := [egA]) w1 (keep_new hp13 hw1 (by repeat (first | exact List.Mem.head _ | apply List.Mem.tail)) hm13) (lits_own (T := tySeg) (D := fun _ => True) (e := 40) (b := p43) [[Value.string ⟨#[65, 66, 67]⟩, .slice (some ⟨p41, 0, none⟩) 2 2]] (xs := [egA]) hw1 (by repeat (first | exact List.Mem.head _ | apply List.Mem.tail)) rfl (by decide) trivial ⟨tySeg_mk rfl (okS_small (by decide)) (lits_own (T := tySlice tyStr) (D := fun _ => True) (e := 25) (b := p41) [[Value.slice (some ⟨p39, 0, none⟩) 2 2], [Value.slice (some ⟨p40, 0, none⟩) 1 1]] (xs := [[⟨#[97]⟩, ⟨#[98]⟩], [⟨#[43]⟩]]) hw1 (by repeat (first | exact List.Mem.head _ | apply List.Mem.tail)) rfl (by decide) trivial ⟨⟨_, rfl, (lits_own (T := tyStr) (D := fun _ => True) (e := 9) (b := p39) [[Value.string ⟨#[97]⟩], [Value.string ⟨#[98]⟩]] (xs := [⟨#[97]⟩, ⟨#[98]⟩]) hw1 (by repeat (first | exact List.Mem.head _ | apply List.Mem.tail)) rfl (by decide) trivial ⟨⟨rfl, okS_small (by decide)⟩, ⟨rfl, okS_small (by decide)⟩, trivial⟩)⟩, ⟨_, rfl, (lits_own (T := tyStr) (D := fun _ => True) (e := 9) (b := p40) [[Value.string ⟨#[43]⟩]] (xs := [⟨#[43]⟩]) hw1 (by repeat (first | exact List.Mem.head _ | apply List.Mem.tail)) rfl (by decide) trivial ⟨⟨rfl, okS_small (by decide)⟩, trivial⟩)⟩, trivial⟩), trivial⟩)) ?_
  intro b44 hb44
  obtain rfl : b44 = true := hb44.trans (decide_eq_true (by rw [ex_a]))
  refine x_val rfl rfl rfl (v_move rfl) ?_
  refine x_if [] rfl rfl rfl rfl rfl (fun hg => by obtain ⟨hg0, _⟩ := hg; (try simp only [List.cons_append, List.nil_append, gvl_nil, gvl_t, gvl_f]); exact v_move rfl) ?_
  refine x_buildSlice_g (cs := [Value.string ⟨#[120, 35]⟩, Value.string ⟨#[121]⟩]) rfl rfl rfl rfl rfl Tryd.underlying25 sz9 zr9 rfl rfl rfl ?_
  intro p47
  refine x_buildSlice_g (cs := [.slice (some ⟨p47, 0, none⟩) 2 2]) rfl rfl rfl rfl rfl Tryd.underlying38 sz25 zr25 rfl rfl rfl ?_
  intro p48
  refine x_if [] rfl rfl rfl rfl rfl (fun hg => by obtain ⟨hg0, _⟩ := hg; (try simp only [List.cons_append, List.nil_append, gvl_nil, gvl_t, gvl_f]); exact v_buildL (places := [(0, 1), (1, 1)]) Tryd.underlying40 zr40 (by kernel_rfl) rfl rfl) ?_
  refine x_buildSlice_g (cs := [Value.string ⟨#[65, 66, 67]⟩, .slice (some ⟨p48, 0, none⟩) 1 1]) rfl rfl rfl rfl rfl Tryd.underlying26 sz40 zr40 rfl rfl rfl ?_
  intro p50
  refine x_call_ifb [] rfl rfl rfl rfl rfl Tryd.func9 (by kernel_rfl) (fun hg => by obtain ⟨hg0, _⟩ := hg; (try simp only [List.cons_append, List.nil_append, gvl_nil, gvl_t, gvl_f]); refine ⟨_, rfl, ?_⟩; exact fun w1 hw1 => c_Same (xs := (parR ⟨#[85, 78, 65, 42, 35, 46, 33, 32, 126, 65, 66, 67, 35, 120, 33, 35, 42, 121, 126]⟩).1) (ys := [egB]) w1 (keep_new hp18 hw1 (by repeat (first | exact List.Mem.head _ | apply List.Mem.tail)) hm18) (lits_own (T := tySeg) (D := fun _ => True) (e := 40) (b := p50) [[Value.string ⟨#[65, 66, 67]⟩, .slice (some ⟨p48, 0, none⟩) 1 1]] (xs := [egB]) hw1 (by repeat (first | exact List.Mem.head _ | apply List.Mem.tail)) rfl (by decide) trivial ⟨tySeg_mk rfl (okS_small (by decide)) (lits_own (T := tySlice tyStr) (D := fun _ => True) (e := 25) (b := p48) [[Value.slice (some ⟨p47, 0, none⟩) 2 2]] (xs := [[⟨#[120, 35]⟩, ⟨#[121]⟩]]) hw1 (by repeat (first | exact List.Mem.head _ | apply List.Mem.tail)) rfl (by decide) trivial ⟨⟨_, rfl, (lits_own (T := tyStr) (D := fun _ => True) (e := 9) (b := p47) [[Value.string ⟨#[120, 35]⟩], [Value.string ⟨#[121]⟩]] (xs := [⟨#[120, 35]⟩, ⟨#[121]⟩]) hw1 (by repeat (first | exact List.Mem.head _ | apply List.Mem.tail)) rfl (by decide) trivial ⟨⟨rfl, okS_small (by decide)⟩, ⟨rfl, okS_small (by decide)⟩, trivial⟩)⟩, trivial⟩), trivial⟩)) ?_
  intro b51 hb51
  obtain rfl : b51 = true := hb51.trans (decide_eq_true (by rw [ex_b]))
  refine x_bool rfl rfl rfl (v_and rfl rfl) ?_
  intro b52 hb52
  obtain rfl : b52 = true := hb52
  refine x_val rfl rfl rfl (v_move rfl) ?_
  refine x_call_ifb [] rfl rfl rfl rfl rfl Tryd.func14 (by kernel_rfl) (fun hg => by obtain ⟨hg0, _⟩ := hg; (try simp only [List.cons_append, List.nil_append, gvl_nil, gvl_t, gvl_f]); refine ⟨_, rfl, ?_⟩; exact fun w1 hw1 => c_parses _ _ _ w1 (by decide)) ?_
  intro b54 hb54
  obtain rfl : b54 = true := hb54.trans (by rw [ex_c]; rfl)
  refine x_bool rfl rfl rfl (v_and rfl rfl) ?_
  intro b55 hb55
  obtain rfl : b55 = true := hb55
  refine x_val rfl rfl rfl (v_move rfl) ?_
  refine x_call_ifb [] rfl rfl rfl rfl rfl Tryd.func14 (by kernel_rfl) (fun hg => by obtain ⟨hg0, _⟩ := hg; (try simp only [List.cons_append, List.nil_append, gvl_nil, gvl_t, gvl_f]); refine ⟨_, rfl, ?_⟩; exact fun w1 hw1 => c_parses _ _ _ w1 (by decide)) ?_
  intro b57 hb57
  obtain rfl : b57 = true := hb57.trans (by rw [ex_d]; rfl)
  refine x_bool rfl rfl rfl (v_and rfl rfl) ?_
  intro b58 hb58
  obtain rfl : b58 = true := hb58
  refine x_val rfl rfl rfl (v_move rfl) ?_
  refine x_call_ifb [] rfl rfl rfl rfl rfl Tryd.func14 (by kernel_rfl) (fun hg => by obtain ⟨hg0, _⟩ := hg; (try simp only [List.cons_append, List.nil_append, gvl_nil, gvl_t, gvl_f]); refine ⟨_, rfl, ?_⟩; exact fun w1 hw1 => c_parses _ _ _ w1 (by decide)) ?_
  intro b60 hb60
  obtain rfl : b60 = true := hb60.trans (by rw [ex_e]; rfl)
  refine x_bool rfl rfl rfl (v_and rfl rfl) ?_
  intro b61 hb61
  obtain rfl : b61 = true := hb61
  refine x_val rfl rfl rfl (v_move rfl) ?_
  refine x_if [] rfl rfl rfl rfl rfl (fun hg => by obtain ⟨hg0, _⟩ := hg; (try simp only [List.cons_append, List.nil_append, gvl_nil, gvl_t, gvl_f]); exact v_move rfl) ?_
  refine x_ifb [] rfl rfl rfl rfl rfl (fun hg => by obtain ⟨hg0, _⟩ := hg; (try simp only [List.cons_append, List.nil_append, gvl_nil, gvl_t, gvl_f]); exact v_seql rfl rfl) ?_
  intro b64 hb64
  obtain rfl : b64 = true := hb64.trans (decide_eq_true (by rw [ex_w]))
  refine x_bool rfl rfl rfl (v_and rfl rfl) ?_
  intro b65 hb65
  obtain rfl : b65 = true := hb65
  refine x_val rfl rfl rfl (v_move rfl) ?_
  refine x_if [] rfl rfl rfl rfl rfl (fun hg => by obtain ⟨hg0, _⟩ := hg; (try simp only [List.cons_append, List.nil_append, gvl_nil, gvl_t, gvl_f]); exact v_move rfl) ?_
  refine x_ifb [] rfl rfl rfl rfl rfl (fun hg => by obtain ⟨hg0, _⟩ := hg; (try simp only [List.cons_append, List.nil_append, gvl_nil, gvl_t, gvl_f]); exact v_eql rfl rfl) ?_
  intro b68 hb68
  obtain rfl : b68 = true := hb68.trans (decide_eq_true (by rw [ex_w]))
  refine x_bool rfl rfl rfl (v_and rfl rfl) ?_
  intro b69 hb69
  obtain rfl : b69 = true := hb69
  refine x_val rfl rfl rfl (v_move rfl) ?_
  refine x_if [] rfl rfl rfl rfl rfl (fun hg => by obtain ⟨hg0, _⟩ := hg; (try simp only [List.cons_append, List.nil_append, gvl_nil, gvl_t, gvl_f]); exact v_move rfl) ?_
  refine x_ifb [] rfl rfl rfl rfl rfl (fun hg => by obtain ⟨hg0, _⟩ := hg; (try simp only [List.cons_append, List.nil_append, gvl_nil, gvl_t, gvl_f]); exact v_seql rfl rfl) ?_
  intro b72 hb72
  obtain rfl : b72 = true := hb72.trans (decide_eq_true (by rw [ex_o]; rfl))
  refine x_bool rfl rfl rfl (v_and rfl rfl) ?_
  intro b73 hb73
  obtain rfl : b73 = true := hb73
  refine x_val rfl rfl rfl (v_assign rfl) ?_
  refine x_end ?_
  refine t_norm ?_
  refine w_ret ?_
  refine ret1 rfl rfl (fun w' hm => ⟨?_, hm.base (by simp)⟩)
  rfl

end Go.Proofs.YtbamklefagghcaaDoor

namespace Go.Proofs.YtbamklefagghcaaDoor
open Go.RowKit Go.PK
set_option linter.unusedVariables false
set_option linter.unusedSimpArgs false
set_option maxRecDepth 100000 in
theorem c3 (s : ByteArray) (ub : List UInt8) (w : World) (hs : s.size ≤ 1048576) (hu : ub.length = 6) (hL : LD w) :
    Calls Tryd.prog 3 #[.string s, .agg (byC ub).toArray] w fun e w' => e = .returned (.bool (true)) ∧ Later w w' := by
  refine enter (vs := [.string s, .agg (byC ub).toArray]) Tryd.func3 rfl Tryd.ntmps3 rfl ?_
  refine w_seq ?_
  refine rg_text ?_
  refine x_box rfl rfl rfl rfl ?_
  intro p3
  refine x_val rfl rfl rfl (v_assign rfl) ?_
  refine x_end ?_
  refine t_norm ?_
  refine w_seq ?_
  refine rg_text ?_
  refine x_callb rfl rfl rfl Tryd.func6 (by kernel_rfl) rfl (fun w1 hw1 => c_sanity w1 (hL.later (hw1.base (by simp)))) ?_
  intro b14 hb14
  obtain rfl : b14 = true := hb14
  refine x_val rfl rfl rfl (v_assign rfl) ?_
  refine x_end ?_
  refine t_norm ?_
  refine w_seq ?_
  refine w_seq ?_
  refine rg_text ?_
  refine x_val rfl rfl rfl (v_move rfl) ?_
  refine x_val rfl rfl rfl (v_move rfl) ?_
  refine x_val rfl rfl rfl (v_sadd rfl rfl (by show 9 + s.size ≤ _; omega)) ?_
  refine x_val rfl rfl rfl (v_aslice Tryd.underlying22 sz5 rfl) ?_
  refine x_val rfl rfl rfl (v_toStr (e := 5) ub Tryd.underlying24 Tryd.underlying5 Tryd.underlying9 rfl hu.symm (fun j hj => at_ownL (vs := byC ub) (.head _) (by rw [Nat.zero_add]; exact byC_at hj))) ?_
  refine x_val rfl rfl rfl (v_sadd rfl rfl (by show 3 + ub.toArray.size ≤ _; rw [List.size_toArray]; omega)) ?_
  refine x_val rfl rfl rfl (v_move rfl) ?_
  refine x_val rfl rfl rfl (v_sadd rfl rfl (by rw [ByteArray.size_append]; show (3 + ub.toArray.size) + s.size ≤ _; rw [List.size_toArray]; omega)) ?_
  refine x_val rfl rfl rfl (v_move rfl) ?_
  refine x_val rfl rfl rfl (v_sadd rfl rfl (by show 3 + s.size ≤ _; omega)) ?_
  refine x_buildSliceL (cs := [s, ((⟨#[85, 78, 65, 58, 43, 46, 63, 32, 39]⟩ : ByteArray) ++ s), (((⟨#[85, 78, 65]⟩ : ByteArray) ++ ⟨ub.toArray⟩) ++ s), ((⟨#[85, 78, 65]⟩ : ByteArray) ++ s)].map Value.string) rfl rfl rfl Tryd.underlying25 sz9 zr9 rfl rfl rfl ?_
  intro p25
  refine x_val rfl rfl rfl (v_len_slice Tryd.underlying25 rfl) ?_
  refine x_val rfl rfl rfl (v_move rfl) ?_
  refine x_end ?_
  refine t_norm ?_
  refine w_block ?_
  refine w_loop (σ := Nat) (fun k => k ≤ 4) (fun k => [(5, Value.bool true), (25, Value.slice (some ⟨p25, 0, none⟩) 4 4), (26, Value.int .i64 4), (27, Value.int .i64 (k : Nat))]) (fun k => [(p25, Obj.cells ([s, ((⟨#[85, 78, 65, 58, 43, 46, 63, 32, 39]⟩ : ByteArray) ++ s), (((⟨#[85, 78, 65]⟩ : ByteArray) ++ ⟨ub.toArray⟩) ++ s), ((⟨#[85, 78, 65]⟩ : ByteArray) ++ s)].map Value.string).toArray 9)]) (fun k => [(w, fun _ => True)]) (fun k => 4 - k) (0) (Nat.zero_le _) (l_start (by repeat (first | exact Sub.nil | refine Sub.cons rfl ?_)) (fun _ h => h.less (List.Sublist.cons_cons _ (List.nil_sublist _)) (fun _ h => h))) ?_
  rintro k hk
  refine w_state ([(5, Value.bool true), (25, Value.slice (some ⟨p25, 0, none⟩) 4 4), (26, Value.int .i64 4), (27, Value.int .i64 (k : Nat))]) ([(p25, Obj.cells ([s, ((⟨#[85, 78, 65, 58, 43, 46, 63, 32, 39]⟩ : ByteArray) ++ s), (((⟨#[85, 78, 65]⟩ : ByteArray) ++ ⟨ub.toArray⟩) ++ s), ((⟨#[85, 78, 65]⟩ : ByteArray) ++ s)].map Value.string).toArray 9)]) ([(w, fun _ => True)]) ?_
  refine w_seq ?_
  refine rg_text ?_
  refine x_bool rfl rfl rfl (v_lss rfl rfl) ?_
  intro b28 hb28
  refine x_end ?_
  refine t_norm ?_
  refine w_seq ?_
  refine w_cond rfl (fun hc28 => ?_) (fun hc28 => ?_)
  · simp only [hb28, decide_eq_true_eq, decide_eq_false_iff_not, Bool.and_eq_true, Bool.or_eq_true, Bool.and_eq_false_iff, Bool.or_eq_false_iff, Bool.not_eq_true', Bool.not_eq_false', ne_eq, Decidable.not_not] at hc28
    have hk4 : k < 4 := by omega
    obtain ⟨x, hx⟩ : ∃ x, [s, ((⟨#[85, 78, 65, 58, 43, 46, 63, 32, 39]⟩ : ByteArray) ++ s), (((⟨#[85, 78, 65]⟩ : ByteArray) ++ ⟨ub.toArray⟩) ++ s), ((⟨#[85, 78, 65]⟩ : ByteArray) ++ s)][k]? = some x := ⟨_, List.getElem?_eq_getElem (show k < 4 from hk4)⟩
    have hxs : x.size ≤ 200000000 := by
      have hm := List.mem_of_getElem? hx
      simp only [List.mem_cons, List.not_mem_nil, or_false] at hm
      rcases hm with rfl | rfl | rfl | rfl
      · omega
      · rw [ByteArray.size_append]; show 9 + s.size ≤ _; omega
      · rw [ByteArray.size_append, ByteArray.size_append]; show (3 + ub.toArray.size) + s.size ≤ _; rw [List.size_toArray]; omega
      · rw [ByteArray.size_append]; show 3 + s.size ≤ _; omega
    refine w_skip ?_
    refine t_norm ?_
    refine w_seq ?_
    refine w_block ?_
    refine w_seq ?_
    refine rg_text ?_
    refine x_val rfl rfl rfl (v_indexAddr Tryd.underlying25 sz9 rfl rfl (by first | omega | (dsimp only; omega)) rfl) ?_
    refine x_val rfl rfl rfl (v_load Tryd.underlying9 rfl rfl (at_ownL (vs := [s, ((⟨#[85, 78, 65, 58, 43, 46, 63, 32, 39]⟩ : ByteArray) ++ s), (((⟨#[85, 78, 65]⟩ : ByteArray) ++ ⟨ub.toArray⟩) ++ s), ((⟨#[85, 78, 65]⟩ : ByteArray) ++ s)].map Value.string) (.head _) (show ([s, ((⟨#[85, 78, 65, 58, 43, 46, 63, 32, 39]⟩ : ByteArray) ++ s), (((⟨#[85, 78, 65]⟩ : ByteArray) ++ ⟨ub.toArray⟩) ++ s), ((⟨#[85, 78, 65]⟩ : ByteArray) ++ s)].map Value.string)[0 + k * 1]? = some (Value.string x) from by rw [Nat.mul_one, Nat.zero_add, List.getElem?_map, hx]; rfl))) ?_
    refine x_val rfl rfl rfl (v_assign rfl) ?_
    refine x_end ?_
    refine t_norm ?_
    refine w_seq ?_
    refine rg_text ?_
    refine x_val rfl rfl rfl (v_move rfl) ?_
    refine x_call (R := fun v wa wb => ∃ A c, v = .tuple #[.slice A (parR x).1.length c, .int .i64 (parR x).2.1, .int .i64 (parR x).2.2] ∧ sliceRd tySeg (fun b => wa.heap.size ≤ b) wb (.slice A (parR x).1.length c) (parR x).1) rfl rfl rfl Tryd.func7 (by kernel_rfl) rfl (fun w1 hw1 => (c_Parse x w1 hxs).mono fun e w2 ⟨v, h1, h2, h3⟩ => by obtain ⟨A, c, rfl, _⟩ := id h3; exact ⟨_, h1, h2, A, c, rfl, h3⟩) ?_
    intro v33 wa33 wb33 hm33 hl33 hR33
    obtain ⟨A33, c33, rfl, hp33⟩ := hR33
    refine x_val rfl rfl rfl (v_move rfl) ?_
    refine x_val rfl rfl rfl (v_extract rfl rfl) ?_
    refine x_val rfl rfl rfl (v_extract rfl rfl) ?_
    refine x_val rfl rfl rfl (v_extract rfl rfl) ?_
    refine x_val rfl rfl rfl (v_assign rfl) ?_
    refine x_val rfl rfl rfl (v_assign rfl) ?_
    refine x_val rfl rfl rfl (v_assign rfl) ?_
    refine x_end ?_
    refine t_norm ?_
    refine w_seq ?_
    refine rg_text ?_
    refine x_val rfl rfl rfl (v_move rfl) ?_
    refine x_call (R := fun v wa wb => ∃ A c, v = .tuple #[.slice A (parR x).1.length c, .int .i64 (parR x).2.1, .int .i64 (parR x).2.2] ∧ sliceRd tySeg (fun b => wa.heap.size ≤ b) wb (.slice A (parR x).1.length c) (parR x).1) rfl rfl rfl Tryd.func8 (by kernel_rfl) rfl (fun w1 hw1 => (c_rParse x w1 hxs).mono fun e w2 ⟨v, h1, h2, h3⟩ => by obtain ⟨A, c, rfl, _⟩ := id h3; exact ⟨_, h1, h2, A, c, rfl, h3⟩) ?_
    intro v39 wa39 wb39 hm39 hl39 hR39
    obtain ⟨A39, c39, rfl, hp39⟩ := hR39
    refine x_val rfl rfl rfl (v_move rfl) ?_
    refine x_val rfl rfl rfl (v_extract rfl rfl) ?_
    refine x_val rfl rfl rfl (v_extract rfl rfl) ?_
    refine x_val rfl rfl rfl (v_extract rfl rfl) ?_
    refine x_val rfl rfl rfl (v_assign rfl) ?_
    refine x_val rfl rfl rfl (v_assign rfl) ?_
    refine x_val rfl rfl rfl (v_assign rfl) ?_
    refine x_end ?_
    refine t_norm ?_
    refine w_seq ?_
    refine rg_text ?_
    refine x_val rfl rfl rfl (v_move rfl) ?_
    refine x_val rfl rfl rfl (v_move rfl) ?_
    refine x_bool rfl rfl rfl (v_neq rfl rfl) ?_
    intro b45 hb45
    refine x_val rfl rfl rfl (v_move rfl) ?_
    refine x_if [] rfl rfl rfl rfl rfl (fun hg => by obtain ⟨hg0, _⟩ := hg; subst hg0; (try simp only [List.cons_append, List.nil_append, gvl_nil, gvl_t, gvl_f]); exact v_move rfl) ?_
    refine x_if [] rfl rfl rfl rfl rfl (fun hg => by obtain ⟨hg0, _⟩ := hg; subst hg0; (try simp only [List.cons_append, List.nil_append, gvl_nil, gvl_t, gvl_f]); exact v_move rfl) ?_
    refine x_ifb [] rfl rfl rfl rfl rfl (fun hg => by obtain ⟨hg0, _⟩ := hg; subst hg0; (try simp only [List.cons_append, List.nil_append, gvl_nil, gvl_t, gvl_f]); exact v_neq rfl rfl) ?_
    intro b49 hb49
    refine x_bool rfl rfl rfl (v_or rfl rfl) ?_
    intro b50 hb50
    refine x_val rfl rfl rfl (v_move rfl) ?_
    refine x_if [] rfl rfl rfl rfl rfl (fun hg => by obtain ⟨hg0, _⟩ := hg; subst hg0; (try simp only [List.cons_append, List.nil_append, gvl_nil, gvl_t, gvl_f]); exact v_move rfl) ?_
    refine x_if [] rfl rfl rfl rfl rfl (fun hg => by obtain ⟨hg0, _⟩ := hg; subst hg0; (try simp only [List.cons_append, List.nil_append, gvl_nil, gvl_t, gvl_f]); exact v_move rfl) ?_
    refine x_call_ifb [] rfl rfl rfl rfl rfl Tryd.func9 (by kernel_rfl) (fun hg => by obtain ⟨hg0, _⟩ := hg; subst hg0; (try simp only [List.cons_append, List.nil_append, gvl_nil, gvl_t, gvl_f]); refine ⟨_, rfl, ?_⟩; exact fun w1 hw1 => c_Same (xs := (parR x).1) (ys := (parR x).1) w1 (keep_new hp33 hw1 (by repeat (first | exact List.Mem.head _ | apply List.Mem.tail)) hm33) (keep_new hp39 hw1 (by repeat (first | exact List.Mem.head _ | apply List.Mem.tail)) hm39)) ?_
    intro b54 hb54
    refine x_ifb [] rfl rfl rfl rfl rfl (fun hg => by obtain ⟨hg0, _⟩ := hg; subst hg0; (try simp only [List.cons_append, List.nil_append, gvl_nil, gvl_t, gvl_f]); exact v_not rfl) ?_
    intro b55 hb55
    refine x_bool rfl rfl rfl (v_or rfl rfl) ?_
    intro b56 hb56
    refine x_end ?_
    refine t_norm ?_
    refine w_cond rfl (fun hc56 => ?_) (fun hc56 => ?_)
    · exfalso
      rw [hb56, hb55, hb54, hb50, hb49, hb45] at hc56
      revert hc56; simp
    · skip
      refine w_skip ?_
      refine b_norm ?_
      refine t_norm ?_
      refine rg_text ?_
      refine x_val rfl rfl rfl (v_addi rfl rfl rfl (by first | omega | (dsimp only; omega))) ?_
      refine x_val rfl rfl rfl (v_move rfl) ?_
      refine x_end ?_
      exact l_norm (k + 1) (show k + 1 ≤ 4 by omega) (by omega) (by repeat (first | exact Sub.nil | refine Sub.cons rfl ?_)) (fun w1 h => h.less (List.Sublist.refl _) (fun q hq => by simp at hq ⊢; simp [hq]))
  · simp only [hb28, decide_eq_true_eq, decide_eq_false_iff_not, Bool.and_eq_true, Bool.or_eq_true, Bool.and_eq_false_iff, Bool.or_eq_false_iff, Bool.not_eq_true', Bool.not_eq_false', ne_eq, Decidable.not_not] at hc28
    refine w_exit ?_
    refine t_exit ?_
    refine t_exit ?_
    refine b_hit ?_
    refine t_norm ?_
    refine w_seq ?_
    refine rg_text ?_
    refine x_val rfl rfl rfl (v_move rfl) ?_
    refine x_val rfl rfl rfl (v_assign rfl) ?_
    refine x_end ?_
    refine t_norm ?_
    refine w_ret ?_
    refine ret1 rfl rfl (fun w' hm => ⟨?_, hm.base (by simp)⟩)
    rfl
set_option maxRecDepth 100000 in
theorem c4 {u v z : Value} {tags texts : List ByteArray} {l : List (List UInt8)} {D1 D2 D3 : Nat → Prop} (w : World) (ht : sliceRd tyStr D1 w u tags) (hx : sliceRd tyStr D2 w v texts) (hl : sliceRd (tySlice tyB) D3 w z l) (hs1 : ∀ t ∈ tags, t.size ≤ 1048576) (hs2 : ∀ t ∈ texts, t.size ≤ 1048576) (hL : LD w) :
    Calls Tryd.prog 4 #[u, v, z] w fun e w' => e = .returned (.bool (true)) ∧ Later w w' := by
  refine enter (vs := [u, v, z]) Tryd.func4 rfl Tryd.ntmps4 rfl ?_
  refine w_seq ?_
  refine rg_text ?_
  refine x_val rfl rfl rfl (v_assign rfl) ?_
  refine x_end ?_
  refine t_norm ?_
  refine w_seq ?_
  refine rg_text ?_
  refine x_callb rfl rfl rfl Tryd.func6 (by kernel_rfl) rfl (fun w1 hw1 => c_sanity w1 (hL.later (hw1.base (by simp)))) ?_
  intro b13 hb13
  obtain rfl : b13 = true := hb13
  refine x_val rfl rfl rfl (v_assign rfl) ?_
  refine x_end ?_
  refine t_norm ?_
  refine w_seq ?_
  refine rg_text ?_
  refine x_val rfl rfl rfl (v_move rfl) ?_
  refine x_val rfl rfl rfl (v_move rfl) ?_
  refine x_val rfl rfl rfl (v_move rfl) ?_
  refine x_call (R := fun v wa wb => sliceRd tySeg (fun b => wa.heap.size ≤ b) wb v (segsP tags texts l)) rfl rfl rfl Tryd.func10 (by kernel_rfl) rfl (fun w1 hw1 => (c_segments w1 (ht.keep (Kept.later (hw1.base (by simp)))) (hx.keep (Kept.later (hw1.base (by simp)))) (hl.keep (Kept.later (hw1.base (by simp))))).mono fun e w2 ⟨v, h1, h2, h3⟩ => ⟨_, h1, h2, h3⟩) ?_
  intro v17 wa17 wb17 hm17 hl17 hR17
  refine x_val rfl rfl rfl (v_assign rfl) ?_
  refine x_end ?_
  refine t_norm ?_
  refine w_seq ?_
  refine rg_text ?_
  refine x_val rfl rfl rfl (v_move rfl) ?_
  refine x_callv rfl rfl rfl Tryd.func11 (by kernel_rfl) rfl (fun w1 hw1 => c_Write (l := segsP tags texts l) w1 (keep_new hR17 hw1 (by repeat (first | exact List.Mem.head _ | apply List.Mem.tail)) hm17) (segs_le hs1 hs2)) ?_
  refine x_val rfl rfl rfl (v_move rfl) ?_
  refine x_val rfl rfl rfl (v_extract rfl rfl) ?_
  refine x_val rfl rfl rfl (v_extract rfl rfl) ?_
  refine x_val rfl rfl rfl (v_assign rfl) ?_
  refine x_val rfl rfl rfl (v_assign rfl) ?_
  refine x_end ?_
  refine t_norm ?_
  refine w_seq ?_
  refine rg_text ?_
  refine x_val rfl rfl rfl (v_move rfl) ?_
  refine x_callv rfl rfl rfl Tryd.func12 (by kernel_rfl) rfl (fun w1 hw1 => c_rWrite (l := segsP tags texts l) w1 (keep_new hR17 hw1 (by repeat (first | exact List.Mem.head _ | apply List.Mem.tail)) hm17) (segs_le hs1 hs2)) ?_
  refine x_val rfl rfl rfl (v_move rfl) ?_
  refine x_val rfl rfl rfl (v_extract rfl rfl) ?_
  refine x_val rfl rfl rfl (v_extract rfl rfl) ?_
  refine x_val rfl rfl rfl (v_assign rfl) ?_
  refine x_val rfl rfl rfl (v_assign rfl) ?_
  refine x_end ?_
  refine t_norm ?_
  refine w_seq ?_
  refine rg_text ?_
  refine x_val rfl rfl rfl (v_move rfl) ?_
  refine x_val rfl rfl rfl (v_move rfl) ?_
  refine x_if [] rfl rfl rfl rfl rfl (fun hg => by obtain ⟨hg0, _⟩ := hg; (try simp only [List.cons_append, List.nil_append, gvl_nil, gvl_t, gvl_f]); exact v_move rfl) ?_
  refine x_if [] rfl rfl rfl rfl rfl (fun hg => by obtain ⟨hg0, _⟩ := hg; (try simp only [List.cons_append, List.nil_append, gvl_nil, gvl_t, gvl_f]); exact v_move rfl) ?_
  refine x_ifb [] rfl rfl rfl rfl rfl (fun hg => by obtain ⟨hg0, _⟩ := hg; (try simp only [List.cons_append, List.nil_append, gvl_nil, gvl_t, gvl_f]); exact v_seql rfl rfl) ?_
  intro b32 hb32
  refine x_bool rfl rfl rfl (v_and rfl rfl) ?_
  intro b33 hb33
  refine x_val rfl rfl rfl (v_move rfl) ?_
  refine x_if [] rfl rfl rfl rfl rfl (fun hg => by obtain ⟨hg0, _⟩ := hg; subst hg0; (try simp only [List.cons_append, List.nil_append, gvl_nil, gvl_t, gvl_f]); exact v_move rfl) ?_
  refine x_if [] rfl rfl rfl rfl rfl (fun hg => by obtain ⟨hg0, _⟩ := hg; subst hg0; (try simp only [List.cons_append, List.nil_append, gvl_nil, gvl_t, gvl_f]); exact v_move rfl) ?_
  refine x_ifb [] rfl rfl rfl rfl rfl (fun hg => by obtain ⟨hg0, _⟩ := hg; subst hg0; (try simp only [List.cons_append, List.nil_append, gvl_nil, gvl_t, gvl_f]); exact v_eql rfl rfl) ?_
  intro b37 hb37
  refine x_bool rfl rfl rfl (v_and rfl rfl) ?_
  intro b38 hb38
  refine x_val rfl rfl rfl (v_assign rfl) ?_
  refine x_end ?_
  refine t_norm ?_
  refine w_ret ?_
  refine ret1 rfl rfl (fun w' hm => ⟨?_, hm.base (by simp)⟩)
  rw [hb38, hb37, hb33, hb32]; simp
set_option maxHeartbeats 1000000 in
set_option maxRecDepth 100000 in
theorem c5 {u : Value} {texts : List ByteArray} {D1 : Nat → Prop} (g : Sg) (w : World) (hls : sliceRd tyStr D1 w u texts) (hz : ∀ t ∈ texts, t.size ≤ 1048576) (hL : LD w) :
    Calls Tryd.prog 5 #[u, .agg g.cells.toArray] w fun e w' => e = .returned (.bool (true)) ∧ Later w w' := by
  obtain ⟨tA, tc, rfl, hlc, hlm, _⟩ := id hls
  refine enter (vs := [.slice tA texts.length tc, .agg g.cells.toArray]) Tryd.func5 rfl Tryd.ntmps5 rfl ?_
  refine w_seq ?_
  refine rg_text ?_
  refine x_box rfl rfl rfl rfl ?_
  intro p3
  refine x_val rfl rfl rfl (v_assign rfl) ?_
  refine x_end ?_
  refine t_norm ?_
  refine w_seq ?_
  refine rg_text ?_
  refine x_callb rfl rfl rfl Tryd.func6 (by kernel_rfl) rfl (fun w1 hw1 => c_sanity w1 (hL.later (hw1.base (by simp)))) ?_
  intro b20 hb20
  obtain rfl : b20 = true := hb20
  refine x_val rfl rfl rfl (v_assign rfl) ?_
  refine x_end ?_
  refine t_norm ?_
  refine w_seq ?_
  refine rg_text ?_
  refine x_val rfl rfl rfl (v_move rfl) ?_
  refine x_val rfl rfl rfl (v_move rfl) ?_
  refine x_val rfl rfl rfl (v_len_slice Tryd.underlying25 rfl) ?_
  refine x_val (v := Value.int .i64 ((min texts.length 8 : Nat) : Int)) rfl rfl rfl (by rw [show ((min texts.length 8 : Nat) : Int) = min (texts.length : Int) 8 by omega]; exact v_min rfl rfl) ?_
  refine x_val rfl rfl rfl (v_scut_to (j := min texts.length 8) Tryd.underlying25 sz9 rfl rfl (by have := hlc; omega)) ?_
  refine x_val rfl rfl rfl (v_assign rfl) ?_
  refine x_end ?_
  refine t_norm ?_
  refine w_seq ?_
  refine w_seq ?_
  refine rg_text ?_
  refine x_val rfl rfl rfl (v_load_blk (e := 37) (fz := (0, 0)) (cs := g.cells.toArray) Tryd.underlying37 rfl rfl (.head _) sz37) ?_
  refine x_val rfl rfl rfl (v_move rfl) ?_
  refine x_end ?_
  refine t_norm ?_
  refine w_block ?_
  obtain ⟨ts, hts⟩ : ∃ ts, texts.take (min texts.length 8) = ts := ⟨_, rfl⟩
  have hml : ts.length = min texts.length 8 := by rw [← hts, List.length_take]; omega
  have htr := hls.take (min texts.length 8) (Nat.min_le_left _ _)
  rw [hts, ← hml] at htr
  have hn8 : ts.length ≤ 8 := by omega
  have hsz : ∀ t ∈ ts, t.size ≤ 1048576 := fun t h => hz t (by rw [← hts] at h; exact List.mem_of_mem_take h)
  rw [← hml]
  refine w_loop (σ := Nat) (fun x => x ≤ 4 ∧ (∀ i, i < x → sgFine ([g.c, g.e, g.r, g.n].getD i 0) ∧ ∀ j, j < i → [g.c, g.e, g.r, g.n].getD j 0 ≠ [g.c, g.e, g.r, g.n].getD i 0)) (fun x => [(0, Value.slice tA ts.length tc), (3, Value.pointer (some ⟨p3, 0, none⟩)), (5, Value.bool true), (26, Value.agg g.cells.toArray), (27, Value.int .i64 (x : Nat))]) (fun x => [(p3, Obj.cells g.cells.toArray 37)]) (fun x => [(w, fun _ => True)]) (fun x => 4 - x) (0) (⟨Nat.zero_le _, fun i hi => absurd hi (Nat.not_lt_zero _)⟩) (l_start (by repeat (first | exact Sub.nil | refine Sub.cons rfl ?_)) (fun _ h => h)) ?_
  rintro k ⟨hk, hfine⟩
  refine w_state ([(0, Value.slice tA ts.length tc), (3, Value.pointer (some ⟨p3, 0, none⟩)), (5, Value.bool true), (26, Value.agg g.cells.toArray), (27, Value.int .i64 (k : Nat))]) ([(p3, Obj.cells g.cells.toArray 37)]) ([(w, fun _ => True)]) ?_
  refine w_seq ?_
  refine rg_text ?_
  refine x_bool rfl rfl rfl (v_lss rfl rfl) ?_
  intro b28 hb28
  refine x_end ?_
  refine t_norm ?_
  refine w_seq ?_
  refine w_cond rfl (fun hc28 => ?_) (fun hc28 => ?_)
  · simp only [hb28, decide_eq_true_eq, decide_eq_false_iff_not, Bool.and_eq_true, Bool.or_eq_true, Bool.and_eq_false_iff, Bool.or_eq_false_iff, Bool.not_eq_true', Bool.not_eq_false', ne_eq, Decidable.not_not] at hc28
    have hk4 : k < 4 := by omega
    have hgk : g.cells[k]? = some (.int .u8 ((([g.c, g.e, g.r, g.n].getD k 0).toNat : Nat) : Int)) := gcells_at g hk4
    refine w_skip ?_
    refine t_norm ?_
    refine w_seq ?_
    refine w_block ?_
    refine w_seq ?_
    refine rg_text ?_
    refine x_val rfl rfl rfl (v_move rfl) ?_
    refine x_val (v := Value.int .u8 ((([g.c, g.e, g.r, g.n].getD k 0).toNat : Nat) : Int)) rfl rfl rfl (v_indexV (j := k) Tryd.underlying37 Tryd.underlying5 rfl sz5 rfl rfl hk4 (by rw [List.getElem?_toArray]; exact hgk)) ?_
    refine x_val rfl rfl rfl (v_assign rfl) ?_
    refine x_val rfl rfl rfl (v_assign rfl) ?_
    refine x_end ?_
    refine t_norm ?_
    refine w_seq ?_
    refine rg_text ?_
    refine x_val rfl rfl rfl (v_move rfl) ?_
    refine x_val rfl rfl rfl (v_orK rfl rfl) ?_
    refine x_bool rfl rfl rfl (v_geq rfl rfl) ?_
    intro b33 hb33
    refine x_val rfl rfl rfl (v_move rfl) ?_
    refine x_if [] rfl rfl rfl rfl rfl (fun hg => by obtain ⟨hg0, _⟩ := hg; subst hg0; (try simp only [List.cons_append, List.nil_append, gvl_nil, gvl_t, gvl_f]); exact v_move rfl) ?_
    refine x_if [] rfl rfl rfl rfl rfl (fun hg => by obtain ⟨hg0, _⟩ := hg; subst hg0; (try simp only [List.cons_append, List.nil_append, gvl_nil, gvl_t, gvl_f]); exact v_orK rfl rfl) ?_
    refine x_ifb [] rfl rfl rfl rfl rfl (fun hg => by obtain ⟨hg0, _⟩ := hg; subst hg0; (try simp only [List.cons_append, List.nil_append, gvl_nil, gvl_t, gvl_f]); exact v_leq rfl rfl) ?_
    intro b37 hb37
    refine x_bool rfl rfl rfl (v_and rfl rfl) ?_
    intro b38 hb38
    refine x_val rfl rfl rfl (v_assign rfl) ?_
    refine x_end ?_
    refine t_norm ?_
    refine w_seq ?_
    refine w_seq ?_
    refine rg_text ?_
    refine x_val rfl rfl rfl (v_move rfl) ?_
    refine x_bool rfl rfl rfl (v_leq rfl rfl) ?_
    intro b40 hb40
    refine x_val rfl rfl rfl (v_move rfl) ?_
    refine x_if [] rfl rfl rfl rfl rfl (fun hg => by obtain ⟨hg0, _⟩ := hg; subst hg0; (try simp only [List.cons_append, List.nil_append, gvl_nil, gvl_t, gvl_f]); exact v_move rfl) ?_
    refine x_ifb [] rfl rfl rfl rfl rfl (fun hg => by obtain ⟨hg0, _⟩ := hg; subst hg0; (try simp only [List.cons_append, List.nil_append, gvl_nil, gvl_t, gvl_f]); exact v_gtr rfl rfl) ?_
    intro b43 hb43
    refine x_bool rfl rfl rfl (v_or rfl rfl) ?_
    intro b44 hb44
    refine x_val rfl rfl rfl (v_move rfl) ?_
    refine x_if [] rfl rfl rfl rfl rfl (fun hg => by obtain ⟨hg0, _⟩ := hg; subst hg0; (try simp only [List.cons_append, List.nil_append, gvl_nil, gvl_t, gvl_f]); exact v_move rfl) ?_
    refine x_bool rfl rfl rfl (v_or rfl rfl) ?_
    intro b47 hb47
    refine x_val rfl rfl rfl (v_move rfl) ?_
    refine x_if [] rfl rfl rfl rfl rfl (fun hg => by obtain ⟨hg0, _⟩ := hg; subst hg0; (try simp only [List.cons_append, List.nil_append, gvl_nil, gvl_t, gvl_f]); exact v_move rfl) ?_
    refine x_ifb [] rfl rfl rfl rfl rfl (fun hg => by obtain ⟨hg0, _⟩ := hg; subst hg0; (try simp only [List.cons_append, List.nil_append, gvl_nil, gvl_t, gvl_f]); exact v_geq rfl rfl) ?_
    intro b50 hb50
    refine x_if [] rfl rfl rfl rfl rfl (fun hg => by obtain ⟨hg0, _⟩ := hg; subst hg0; (try simp only [List.cons_append, List.nil_append, gvl_nil, gvl_t, gvl_f]); exact v_move rfl) ?_
    refine x_if [(b47, false)] rfl rfl rfl rfl rfl (fun hg => by obtain ⟨hg0, hg1, _⟩ := hg; subst hg0; subst hg1; (try simp only [List.cons_append, List.nil_append, gvl_nil, gvl_t, gvl_f]); exact v_move rfl) ?_
    refine x_ifb [(b47, false)] rfl rfl rfl rfl rfl (fun hg => by obtain ⟨hg0, hg1, _⟩ := hg; subst hg0; subst hg1; (try simp only [List.cons_append, List.nil_append, gvl_nil, gvl_t, gvl_f]); exact v_leq rfl rfl) ?_
    intro b53 hb53
    refine x_ifb [] rfl rfl rfl rfl rfl (fun hg => by obtain ⟨hg0, _⟩ := hg; subst hg0; (try simp only [List.cons_append, List.nil_append, gvl_nil, gvl_t, gvl_f]); exact v_and rfl rfl) ?_
    intro b54 hb54
    refine x_bool rfl rfl rfl (v_or rfl rfl) ?_
    intro b55 hb55
    refine x_end ?_
    refine t_norm ?_
    refine w_cond rfl (fun hc55 => ?_) (fun hc55 => ?_)
    · skip
      refine w_seq ?_
      refine rg_text ?_
      refine x_val rfl rfl rfl (v_move rfl) ?_
      refine x_val rfl rfl rfl (v_assign rfl) ?_
      refine x_end ?_
      refine t_norm ?_
      refine w_ret ?_
      refine t_ret ?_
      refine b_ret ?_
      refine t_ret ?_
      refine t_ret ?_
      refine b_ret ?_
      refine t_ret ?_
      refine ret1 rfl rfl (fun w' hm => ⟨?_, hm.base (by simp)⟩)
      rfl
    · have hck : sgFine ([g.c, g.e, g.r, g.n].getD k 0) := fine_of (by rw [← hc55, hb55, hb54, hb53, hb50, hb47, hb44, hb43, hb40, hb38, hb37, hb33])
      refine w_skip ?_
      refine t_norm ?_
      refine w_seq ?_
      refine rg_text ?_
      refine x_val rfl rfl rfl (v_move rfl) ?_
      refine x_val rfl rfl rfl (v_aslice_to (j := k) Tryd.underlying37 sz5 rfl rfl (Nat.le_of_lt hk4)) ?_
      refine x_val rfl rfl rfl (v_len_slice Tryd.underlying24 rfl) ?_
      refine x_val rfl rfl rfl (v_move rfl) ?_
      refine x_end ?_
      refine t_norm ?_
      refine w_block ?_
      refine w_loop (σ := Nat) (fun y => y ≤ k ∧ ∀ i, i < y → [g.c, g.e, g.r, g.n].getD i 0 ≠ ([g.c, g.e, g.r, g.n].getD k 0)) (fun y => [(0, Value.slice tA ts.length tc), (3, Value.pointer (some ⟨p3, 0, none⟩)), (5, Value.bool true), (26, Value.agg g.cells.toArray), (27, Value.int .i64 (k : Nat)), (7, Value.int .u8 ((([g.c, g.e, g.r, g.n].getD k 0).toNat : Nat) : Int)), (58, Value.slice (some ⟨p3, 0, none⟩) k 4), (59, Value.int .i64 (k : Nat)), (60, Value.int .i64 (y : Nat))]) (fun y => [(p3, Obj.cells g.cells.toArray 37)]) (fun y => [(w, fun _ => True)]) (fun y => k - y) (0) (⟨Nat.zero_le _, by intros; omega⟩) (l_start (by repeat (first | exact Sub.nil | refine Sub.cons rfl ?_)) (fun _ h => h)) ?_
      rintro j ⟨hj, hno⟩
      refine w_state ([(0, Value.slice tA ts.length tc), (3, Value.pointer (some ⟨p3, 0, none⟩)), (5, Value.bool true), (26, Value.agg g.cells.toArray), (27, Value.int .i64 (k : Nat)), (7, Value.int .u8 ((([g.c, g.e, g.r, g.n].getD k 0).toNat : Nat) : Int)), (58, Value.slice (some ⟨p3, 0, none⟩) k 4), (59, Value.int .i64 (k : Nat)), (60, Value.int .i64 (j : Nat))]) ([(p3, Obj.cells g.cells.toArray 37)]) ([(w, fun _ => True)]) ?_
      refine w_seq ?_
      refine rg_text ?_
      refine x_bool rfl rfl rfl (v_lss rfl rfl) ?_
      intro b61 hb61
      refine x_end ?_
      refine t_norm ?_
      refine w_seq ?_
      refine w_cond rfl (fun hc61 => ?_) (fun hc61 => ?_)
      · simp only [hb61, decide_eq_true_eq, decide_eq_false_iff_not, Bool.and_eq_true, Bool.or_eq_true, Bool.and_eq_false_iff, Bool.or_eq_false_iff, Bool.not_eq_true', Bool.not_eq_false', ne_eq, Decidable.not_not] at hc61
        have hjk : j < k := by omega
        refine w_skip ?_
        refine t_norm ?_
        refine w_seq ?_
        refine w_block ?_
        refine w_seq ?_
        refine rg_text ?_
        refine x_val rfl rfl rfl (v_indexAddr Tryd.underlying24 sz5 rfl rfl (by first | omega | (dsimp only; omega)) rfl) ?_
        refine x_val rfl rfl rfl (v_load Tryd.underlying5 rfl rfl (at_ownL (vs := g.cells) (.head _) (by rw [Nat.zero_add, Nat.mul_one]; exact gcells_at g (by omega)))) ?_
        refine x_val rfl rfl rfl (v_assign rfl) ?_
        refine x_end ?_
        refine t_norm ?_
        refine w_seq ?_
        refine rg_text ?_
        refine x_val rfl rfl rfl (v_move rfl) ?_
        refine x_val rfl rfl rfl (v_move rfl) ?_
        refine x_bool rfl rfl rfl (v_eql rfl rfl) ?_
        intro b66 hb66
        refine x_end ?_
        refine t_norm ?_
        refine w_cond rfl (fun hc66 => ?_) (fun hc66 => ?_)
        · simp only [hb66, decide_eq_true_eq, decide_eq_false_iff_not, Bool.and_eq_true, Bool.or_eq_true, Bool.and_eq_false_iff, Bool.or_eq_false_iff, Bool.not_eq_true', Bool.not_eq_false', ne_eq, Decidable.not_not] at hc66
          refine w_seq ?_
          refine rg_text ?_
          refine x_val rfl rfl rfl (v_move rfl) ?_
          refine x_val rfl rfl rfl (v_assign rfl) ?_
          refine x_end ?_
          refine t_norm ?_
          refine w_ret ?_
          refine b_ret ?_
          refine t_ret ?_
          refine t_ret ?_
          refine b_ret ?_
          refine b_ret ?_
          refine t_ret ?_
          refine t_ret ?_
          refine b_ret ?_
          refine t_ret ?_
          refine ret1 rfl rfl (fun w' hm => ⟨?_, hm.base (by simp)⟩)
          rfl
        · simp only [hb66, decide_eq_true_eq, decide_eq_false_iff_not, Bool.and_eq_true, Bool.or_eq_true, Bool.and_eq_false_iff, Bool.or_eq_false_iff, Bool.not_eq_true', Bool.not_eq_false', ne_eq, Decidable.not_not] at hc66
          have hne : [g.c, g.e, g.r, g.n].getD j 0 ≠ ([g.c, g.e, g.r, g.n].getD k 0) := fun h => hc66 (u8_lit.2 h.symm)
          refine w_skip ?_
          refine b_norm ?_
          refine t_norm ?_
          refine rg_text ?_
          refine x_val rfl rfl rfl (v_addi rfl rfl rfl (by first | omega | (dsimp only; omega))) ?_
          refine x_val rfl rfl rfl (v_move rfl) ?_
          refine x_end ?_
          exact l_norm (j + 1) ⟨by omega, fun i hi => by rcases Nat.lt_succ_iff_lt_or_eq.1 hi with h | rfl; (· exact hno i h); exact hne⟩ (by omega) (by repeat (first | exact Sub.nil | refine Sub.cons rfl ?_)) (fun _ h => h)
      · simp only [hb61, decide_eq_true_eq, decide_eq_false_iff_not, Bool.and_eq_true, Bool.or_eq_true, Bool.and_eq_false_iff, Bool.or_eq_false_iff, Bool.not_eq_true', Bool.not_eq_false', ne_eq, Decidable.not_not] at hc61
        obtain rfl : j = k := by omega
        refine w_exit ?_
        refine t_exit ?_
        refine t_exit ?_
        refine b_hit ?_
        refine b_norm ?_
        refine t_norm ?_
        refine rg_text ?_
        refine x_val rfl rfl rfl (v_addi rfl rfl rfl (by first | omega | (dsimp only; omega))) ?_
        refine x_val rfl rfl rfl (v_move rfl) ?_
        refine x_end ?_
        exact l_norm (j + 1) ⟨by omega, fun i hi => by rcases Nat.lt_succ_iff_lt_or_eq.1 hi with h | rfl; (· exact hfine i h); exact ⟨hck, hno⟩⟩ (by omega) (by repeat (first | exact Sub.nil | refine Sub.cons rfl ?_)) (fun _ h => h)
  · simp only [hb28, decide_eq_true_eq, decide_eq_false_iff_not, Bool.and_eq_true, Bool.or_eq_true, Bool.and_eq_false_iff, Bool.or_eq_false_iff, Bool.not_eq_true', Bool.not_eq_false', ne_eq, Decidable.not_not] at hc28
    obtain rfl : k = 4 := by omega
    obtain ⟨hg, hgc, hge, hgn⟩ := fine_rightS hfine
    refine w_exit ?_
    refine t_exit ?_
    refine t_exit ?_
    refine b_hit ?_
    refine t_norm ?_
    refine w_seq ?_
    refine rg_text ?_
    refine x_val rfl rfl rfl (v_indexArr (j := 0) (off' := 0) Tryd.underlying37 sz5 rfl rfl (by first | omega | (dsimp only; omega)) rfl) ?_
    refine x_val rfl rfl rfl (v_load Tryd.underlying5 rfl rfl (at_ownL (vs := g.cells) (.head _) rfl)) ?_
    refine x_val rfl rfl rfl (v_indexArr (j := 1) (off' := 1) Tryd.underlying37 sz5 rfl rfl (by first | omega | (dsimp only; omega)) rfl) ?_
    refine x_val rfl rfl rfl (v_load Tryd.underlying5 rfl rfl (at_ownL (vs := g.cells) (.head _) rfl)) ?_
    refine x_val rfl rfl rfl (v_indexArr (j := 2) (off' := 2) Tryd.underlying37 sz5 rfl rfl (by first | omega | (dsimp only; omega)) rfl) ?_
    refine x_val rfl rfl rfl (v_load Tryd.underlying5 rfl rfl (at_ownL (vs := g.cells) (.head _) rfl)) ?_
    refine x_val rfl rfl rfl (v_indexArr (j := 3) (off' := 3) Tryd.underlying37 sz5 rfl rfl (by first | omega | (dsimp only; omega)) rfl) ?_
    refine x_val rfl rfl rfl (v_load Tryd.underlying5 rfl rfl (at_ownL (vs := g.cells) (.head _) rfl)) ?_
    refine x_buildSliceL (cs := byC [g.c, g.e, 44, g.r, 42, g.n]) rfl rfl rfl Tryd.underlying24 sz5 zr5 rfl rfl rfl ?_
    intro p78
    refine x_val rfl rfl rfl (v_toStr (e := 5) [g.c, g.e, 44, g.r, 42, g.n] Tryd.underlying24 Tryd.underlying5 Tryd.underlying9 rfl rfl (fun j hj => at_ownL (vs := byC [g.c, g.e, 44, g.r, 42, g.n]) (.head _) (by rw [Nat.zero_add]; exact byC_at hj))) ?_
    refine x_val (v := Value.string ⟨(sgHead g).toArray⟩) rfl rfl rfl (v_saddL (a := [85, 78, 65]) (b := [g.c, g.e, 44, g.r, 42, g.n]) rfl rfl (by show 3 + 6 ≤ _; decide)) ?_
    refine x_val rfl rfl rfl (v_assign rfl) ?_
    refine x_end ?_
    refine t_norm ?_
    refine w_seq ?_
    refine rg_text ?_
    refine x_val rfl rfl rfl (v_assign rfl) ?_
    refine x_end ?_
    refine t_norm ?_
    refine w_seq ?_
    refine w_seq ?_
    refine rg_text ?_
    refine x_val rfl rfl rfl (v_move rfl) ?_
    refine x_val rfl rfl rfl (v_len_slice Tryd.underlying25 rfl) ?_
    refine x_val rfl rfl rfl (v_move rfl) ?_
    refine x_end ?_
    refine t_norm ?_
    refine w_block ?_
    refine w_fix (rowO 40 none ++ [(p3, Obj.cells g.cells.toArray 37)]) (List.sublist_cons_self _ _) (fun w0 hm0 => ?_)
    refine w_loop (σ := Nat × RowS × World) (fun x => x.1 ≤ ts.length ∧ (sgHead g ++ sgMsg g 0 (ts.take x.1)).length ≤ 9 + x.1 * 4194320 ∧ RowT tySeg (newD w (rowO 40 x.2.1 ++ [(p3, Obj.cells g.cells.toArray 37)])) x.2.2 x.2.1 ((ts.take x.1).map sgWant)) (fun x => [(3, Value.pointer (some ⟨p3, 0, none⟩)), (5, Value.bool true), (81, Value.slice tA ts.length tc), (82, Value.int .i64 (ts.length : Nat)), (83, Value.int .i64 (x.1 : Nat)), (11, Value.string ⟨(sgHead g ++ sgMsg g 0 (ts.take x.1)).toArray⟩), (12, rowV x.2.1 x.1)]) (fun x => rowO 40 x.2.1 ++ [(p3, Obj.cells g.cells.toArray 37)]) (fun x => (x.2.2, notOwn (rowO 40 x.2.1 ++ [(p3, Obj.cells g.cells.toArray 37)])) :: [(w, fun _ => True)]) (fun x => ts.length - x.1) ((0, none, w0)) (⟨Nat.zero_le _, by show 9 + 0 ≤ 9 + 0 * 4194320; decide, RowT.nil⟩) (l_start (by repeat (first | exact Sub.nil | refine Sub.cons rfl ?_)) (fun _ h => h)) ?_
    rintro ⟨k, R, ws⟩ ⟨hk, hmz, hT⟩
    refine w_state ([(3, Value.pointer (some ⟨p3, 0, none⟩)), (5, Value.bool true), (81, Value.slice tA ts.length tc), (82, Value.int .i64 (ts.length : Nat)), (83, Value.int .i64 (k : Nat)), (11, Value.string ⟨(sgHead g ++ sgMsg g 0 (ts.take k)).toArray⟩), (12, rowV R k)]) (rowO 40 R ++ [(p3, Obj.cells g.cells.toArray 37)]) ((ws, notOwn (rowO 40 R ++ [(p3, Obj.cells g.cells.toArray 37)])) :: [(w, fun _ => True)]) ?_
    dsimp only at hk hmz hT
    have hln : ((ts.take k).map sgWant).length = k := by simp; omega
    refine w_seq ?_
    refine rg_text ?_
    refine x_bool rfl rfl rfl (v_lss rfl rfl) ?_
    intro b84 hb84
    refine x_end ?_
    refine t_norm ?_
    refine w_seq ?_
    refine w_cond rfl (fun hc84 => ?_) (fun hc84 => ?_)
    · simp only [hb84, decide_eq_true_eq, decide_eq_false_iff_not, Bool.and_eq_true, Bool.or_eq_true, Bool.and_eq_false_iff, Bool.or_eq_false_iff, Bool.not_eq_true', Bool.not_eq_false', ne_eq, Decidable.not_not] at hc84
      have hkl : k < ts.length := by omega
      obtain ⟨tb, t0, htA, _, htc, htok⟩ := s_at htr hkl
      have hszk := hsz _ (List.getElem_mem hkl)
      refine w_skip ?_
      refine t_norm ?_
      refine w_seq ?_
      refine w_block ?_
      refine w_seq ?_
      refine rg_text ?_
      refine x_val rfl rfl rfl (v_move rfl) ?_
      refine x_val rfl rfl rfl (v_indexAddr Tryd.underlying25 sz9 (congrArg (fun A => some (Value.slice A ts.length tc)) htA) rfl (by first | omega | (dsimp only; omega)) rfl) ?_
      refine x_val rfl rfl rfl (v_load Tryd.underlying9 rfl rfl (at_ro (.tail _ (.head _)) trivial (by rw [Nat.mul_one]; exact htc))) ?_
      refine x_val rfl rfl rfl (v_assign rfl) ?_
      refine x_val rfl rfl rfl (v_assign rfl) ?_
      refine x_end ?_
      refine t_norm ?_
      refine w_seq ?_
      refine rg_text ?_
      refine x_val rfl rfl rfl (v_assign rfl) ?_
      refine x_end ?_
      refine t_norm ?_
      refine w_seq ?_
      refine w_seq ?_
      refine rg_text ?_
      refine x_val rfl rfl rfl (v_move rfl) ?_
      refine x_val rfl rfl rfl (v_len_str Tryd.underlying9 rfl) ?_
      refine x_val rfl rfl rfl (v_move rfl) ?_
      refine x_end ?_
      refine t_norm ?_
      refine w_block ?_
      refine w_loop (σ := Nat × RowS) (fun x => x.1 ≤ ts[k].size ∧ rowOK 1 x.2 (2 * x.1) (byC (escR g.r ((bl ts[k]).take x.1)))) (fun x => [(3, Value.pointer (some ⟨p3, 0, none⟩)), (5, Value.bool true), (81, Value.slice tA ts.length tc), (82, Value.int .i64 (ts.length : Nat)), (83, Value.int .i64 (k : Nat)), (11, Value.string ⟨(sgHead g ++ sgMsg g 0 (ts.take k)).toArray⟩), (12, rowV R k), (13, Value.int .i64 (k : Nat)), (14, Value.string ts[k]), (15, rowV x.2 (2 * x.1)), (89, Value.int .i64 (ts[k].size : Nat)), (90, Value.int .i64 (x.1 : Nat))]) (fun x => rowO 5 x.2 ++ (rowO 40 R ++ [(p3, Obj.cells g.cells.toArray 37)])) (fun x => (ws, notOwn (rowO 40 R ++ [(p3, Obj.cells g.cells.toArray 37)])) :: [(w, fun _ => True)]) (fun x => ts[k].size - x.1) ((0, none)) (⟨Nat.zero_le _, rowOK_nil⟩) (l_start (by repeat (first | exact Sub.nil | refine Sub.cons rfl ?_)) (fun _ h => h)) ?_
      rintro ⟨j, r4⟩ ⟨hj, hr4⟩
      refine w_state ([(3, Value.pointer (some ⟨p3, 0, none⟩)), (5, Value.bool true), (81, Value.slice tA ts.length tc), (82, Value.int .i64 (ts.length : Nat)), (83, Value.int .i64 (k : Nat)), (11, Value.string ⟨(sgHead g ++ sgMsg g 0 (ts.take k)).toArray⟩), (12, rowV R k), (13, Value.int .i64 (k : Nat)), (14, Value.string ts[k]), (15, rowV r4 (2 * j)), (89, Value.int .i64 (ts[k].size : Nat)), (90, Value.int .i64 (j : Nat))]) (rowO 5 r4 ++ (rowO 40 R ++ [(p3, Obj.cells g.cells.toArray 37)])) ((ws, notOwn (rowO 40 R ++ [(p3, Obj.cells g.cells.toArray 37)])) :: [(w, fun _ => True)]) ?_
      dsimp only at hj hr4
      refine w_seq ?_
      refine rg_text ?_
      refine x_bool rfl rfl rfl (v_lss rfl rfl) ?_
      intro b91 hb91
      refine x_end ?_
      refine t_norm ?_
      refine w_seq ?_
      refine w_cond rfl (fun hc91 => ?_) (fun hc91 => ?_)
      · simp only [hb91, decide_eq_true_eq, decide_eq_false_iff_not, Bool.and_eq_true, Bool.or_eq_true, Bool.and_eq_false_iff, Bool.or_eq_false_iff, Bool.not_eq_true', Bool.not_eq_false', ne_eq, Decidable.not_not] at hc91
        have hjl : j < ts[k].size := by omega
        refine w_skip ?_
        refine t_norm ?_
        refine w_seq ?_
        refine w_block ?_
        refine w_seq ?_
        refine rg_text ?_
        refine x_val rfl rfl rfl (v_move rfl) ?_
        refine x_val rfl rfl rfl (v_assign rfl) ?_
        refine x_end ?_
        refine t_norm ?_
        refine rg_draw 7 [(true, 0), (true, 1), (true, 2), (true, 3), (true, 4), (true, 5), (false, 6)] (by kernel_rfl) (by kernel_rfl) ?_
        refine x_val rfl rfl rfl (v_move rfl) ?_
        refine x_val rfl rfl rfl (v_indexArr (j := 2) (off' := 2) Tryd.underlying37 sz5 rfl rfl (by first | omega | (dsimp only; omega)) rfl) ?_
        refine x_val rfl rfl rfl (v_load Tryd.underlying5 rfl rfl (at_ownL (vs := g.cells) (List.mem_append_right _ (List.mem_append_right _ (.head _))) rfl)) ?_
        refine x_val rfl rfl rfl (v_move rfl) ?_
        refine x_val rfl rfl rfl (v_move rfl) ?_
        refine x_val rfl rfl rfl (v_index Tryd.underlying9 rfl rfl (hjl)) ?_
        refine x_buildSliceL (cs := [Value.int .u8 (g.r.toNat : Nat), .int .u8 ((byteAt ts[k] j).toNat : Nat)]) rfl rfl rfl Tryd.underlying24 sz5 zr5 rfl rfl rfl ?_
        intro p99
        refine x_append (e := 5) [(p99, Obj.cells [Value.int .u8 (g.r.toNat : Nat), .int .u8 ((byteAt ts[k] j).toNat : Nat)].toArray 5)] (l2 := rowO 40 R ++ [(p3, Obj.cells g.cells.toArray 37)]) r4 (len := 2 * j) (xs := byC (escR g.r ((bl ts[k]).take j))) rfl rfl rfl rfl (by simp [List.append_assoc]) hr4 Tryd.underlying24 ap5 rfl rfl (m := 2) (news := [Value.int .u8 (g.r.toNat : Nat), .int .u8 ((byteAt ts[k] j).toNat : Nat)]) (fun i hi => at_ownL (vs := [Value.int .u8 (g.r.toNat : Nat), .int .u8 ((byteAt ts[k] j).toNat : Nat)]) (.head _) (by rw [Nat.zero_add]; exact List.getElem?_eq_getElem hi)) rfl (by simp only [maxLen]; omega) (by omega) ?_
        intro r' hr'
        refine x_val rfl rfl rfl (v_assign rfl) ?_
        refine x_end ?_
        refine b_norm ?_
        refine t_norm ?_
        refine rg_text ?_
        refine x_val rfl rfl rfl (v_addi rfl rfl rfl (by first | omega | (dsimp only; omega))) ?_
        refine x_val rfl rfl rfl (v_move rfl) ?_
        refine x_end ?_
        exact l_norm (j + 1, r') ⟨by dsimp only; omega, by dsimp only; rw [List.take_succ_eq_append_getElem (by rw [bl_len]; exact hjl), escR_snoc, bl_get]; have h := hr'; rw [show 2 * (j + 1) = 2 * j + 2 by omega]; simpa [byC] using h⟩ (by simp only; omega) (by repeat (first | exact Sub.nil | refine Sub.cons rfl ?_)) (fun w1 h => (h.less (List.sublist_cons_self _ _) (fun _ h => h)).to (by simp [List.append_assoc]))
      · simp only [hb91, decide_eq_true_eq, decide_eq_false_iff_not, Bool.and_eq_true, Bool.or_eq_true, Bool.and_eq_false_iff, Bool.or_eq_false_iff, Bool.not_eq_true', Bool.not_eq_false', ne_eq, Decidable.not_not] at hc91
        obtain rfl : j = ts[k].size := by omega
        rw [List.take_of_length_le (by rw [bl_len]; exact Nat.le_refl _)] at hr4
        refine w_exit ?_
        refine t_exit ?_
        refine t_exit ?_
        refine b_hit ?_
        refine t_norm ?_
        refine w_seq ?_
        refine rg_text ?_
        refine x_val rfl rfl rfl (v_move rfl) ?_
        refine x_val rfl rfl rfl (v_indexArr (j := 1) (off' := 1) Tryd.underlying37 sz5 rfl rfl (by first | omega | (dsimp only; omega)) rfl) ?_
        refine x_val rfl rfl rfl (v_load Tryd.underlying5 rfl rfl (at_ownL (vs := g.cells) (List.mem_append_right _ (List.mem_append_right _ (.head _))) rfl)) ?_
        refine x_val rfl rfl rfl (v_chr Tryd.underlying5 Tryd.underlying9 rfl hge) ?_
        refine x_val rfl rfl rfl (v_saddL (a := [13, 10, 32, 32, 88, 89, 90]) (b := [g.e]) rfl rfl (by simp only [List.length_append, List.length_cons, List.length_nil, escR_len, bl_len]; omega)) ?_
        refine x_val rfl rfl rfl (v_move rfl) ?_
        refine x_val rfl rfl rfl (v_toStrA (escR g.r (bl ts[k])) Tryd.underlying24 Tryd.underlying5 Tryd.underlying9 rfl (by rw [escR_len, bl_len]) (row_byte (e := 5) hr4 (fun p hp => List.mem_append_left _ hp))) ?_
        refine x_val rfl rfl rfl (v_saddL (a := ([13, 10, 32, 32, 88, 89, 90] ++ [g.e])) (b := (escR g.r (bl ts[k]))) rfl rfl (by simp only [List.length_append, List.length_cons, List.length_nil, escR_len, bl_len]; omega)) ?_
        refine x_val rfl rfl rfl (v_indexArr (j := 0) (off' := 0) Tryd.underlying37 sz5 rfl rfl (by first | omega | (dsimp only; omega)) rfl) ?_
        refine x_val rfl rfl rfl (v_load Tryd.underlying5 rfl rfl (at_ownL (vs := g.cells) (List.mem_append_right _ (List.mem_append_right _ (.head _))) rfl)) ?_
        refine x_val rfl rfl rfl (v_chr Tryd.underlying5 Tryd.underlying9 rfl hgc) ?_
        refine x_val rfl rfl rfl (v_saddL (a := (([13, 10, 32, 32, 88, 89, 90] ++ [g.e]) ++ (escR g.r (bl ts[k])))) (b := [g.c]) rfl rfl (by simp only [List.length_append, List.length_cons, List.length_nil, escR_len, bl_len]; omega)) ?_
        refine x_val rfl rfl rfl (v_indexArr (j := 1) (off' := 1) Tryd.underlying37 sz5 rfl rfl (by first | omega | (dsimp only; omega)) rfl) ?_
        refine x_val rfl rfl rfl (v_load Tryd.underlying5 rfl rfl (at_ownL (vs := g.cells) (List.mem_append_right _ (List.mem_append_right _ (.head _))) rfl)) ?_
        refine x_val rfl rfl rfl (v_chr Tryd.underlying5 Tryd.underlying9 rfl hge) ?_
        refine x_val rfl rfl rfl (v_saddL (a := ((([13, 10, 32, 32, 88, 89, 90] ++ [g.e]) ++ (escR g.r (bl ts[k]))) ++ [g.c])) (b := [g.e]) rfl rfl (by simp only [List.length_append, List.length_cons, List.length_nil, escR_len, bl_len]; omega)) ?_
        refine x_val rfl rfl rfl (v_move rfl) ?_
        refine x_val rfl rfl rfl (v_toStrA (escR g.r (bl ts[k])) Tryd.underlying24 Tryd.underlying5 Tryd.underlying9 rfl (by rw [escR_len, bl_len]) (row_byte (e := 5) hr4 (fun p hp => List.mem_append_left _ hp))) ?_
        refine x_val rfl rfl rfl (v_saddL (a := (((([13, 10, 32, 32, 88, 89, 90] ++ [g.e]) ++ (escR g.r (bl ts[k]))) ++ [g.c]) ++ [g.e])) (b := (escR g.r (bl ts[k]))) rfl rfl (by simp only [List.length_append, List.length_cons, List.length_nil, escR_len, bl_len]; omega)) ?_
        refine x_val rfl rfl rfl (v_indexArr (j := 3) (off' := 3) Tryd.underlying37 sz5 rfl rfl (by first | omega | (dsimp only; omega)) rfl) ?_
        refine x_val rfl rfl rfl (v_load Tryd.underlying5 rfl rfl (at_ownL (vs := g.cells) (List.mem_append_right _ (List.mem_append_right _ (.head _))) rfl)) ?_
        refine x_val rfl rfl rfl (v_chr Tryd.underlying5 Tryd.underlying9 rfl hgn) ?_
        refine x_val rfl rfl rfl (v_saddL (a := ((((([13, 10, 32, 32, 88, 89, 90] ++ [g.e]) ++ (escR g.r (bl ts[k]))) ++ [g.c]) ++ [g.e]) ++ (escR g.r (bl ts[k])))) (b := [g.n]) rfl rfl (by simp only [List.length_append, List.length_cons, List.length_nil, escR_len, bl_len]; omega)) ?_
        refine x_val rfl rfl rfl (v_saddL (a := (sgHead g ++ sgMsg g 0 (ts.take k))) (b := (((((([13, 10, 32, 32, 88, 89, 90] ++ [g.e]) ++ (escR g.r (bl ts[k]))) ++ [g.c]) ++ [g.e]) ++ (escR g.r (bl ts[k]))) ++ [g.n])) rfl rfl (by rw [List.length_append] at hmz ⊢; simp only [List.length_append, List.length_cons, List.length_nil, escR_len, bl_len] at hmz ⊢; omega)) ?_
        refine x_val rfl rfl rfl (v_assign rfl) ?_
        refine x_end ?_
        refine t_norm ?_
        refine w_seq ?_
        refine rg_text ?_
        refine x_val rfl rfl rfl (v_move rfl) ?_
        refine x_val rfl rfl rfl (v_move rfl) ?_
        refine x_buildSliceL (cs := [Value.string ts[k], .string ⟨#[]⟩]) rfl rfl rfl Tryd.underlying25 sz9 zr9 rfl rfl rfl ?_
        intro p128
        refine x_val rfl rfl rfl (v_move rfl) ?_
        refine x_buildSliceL (cs := [Value.string ts[k]]) rfl rfl rfl Tryd.underlying25 sz9 zr9 rfl rfl rfl ?_
        intro p130
        refine x_buildSliceL (cs := [Value.slice (some ⟨p128, 0, none⟩) 2 2, .slice (some ⟨p130, 0, none⟩) 1 1]) rfl rfl rfl Tryd.underlying38 sz25 zr25 rfl rfl rfl ?_
        intro p131
        refine x_val rfl rfl rfl (v_buildL (places := [(0, 1), (1, 1)]) Tryd.underlying40 zr40 (by kernel_rfl) rfl rfl) ?_
        refine x_buildSliceL (cs := [Value.string xyz, .slice (some ⟨p131, 0, none⟩) 2 2]) rfl rfl rfl Tryd.underlying26 sz40 zr40 rfl rfl rfl ?_
        intro p133
        obtain ⟨css, hcl, hrow, hrd⟩ := hT
        rw [hln] at hcl hrow
        refine x_append (e := 40) ([(p133, Obj.cells [Value.string xyz, .slice (some ⟨p131, 0, none⟩) 2 2].toArray 40), (p131, Obj.cells [Value.slice (some ⟨p128, 0, none⟩) 2 2, .slice (some ⟨p130, 0, none⟩) 1 1].toArray 25), (p130, Obj.cells [Value.string ts[k]].toArray 9), (p128, Obj.cells [Value.string ts[k], .string ⟨#[]⟩].toArray 9)] ++ rowO 5 r4) (l2 := [(p3, Obj.cells g.cells.toArray 37)]) R (len := k) (xs := css.flatten) rfl rfl rfl rfl (by simp [List.append_assoc]) hrow Tryd.underlying26 ap40 rfl rfl (m := 1) (news := [Value.string xyz, .slice (some ⟨p131, 0, none⟩) 2 2]) (fun i hi => at_ownL (vs := [Value.string xyz, .slice (some ⟨p131, 0, none⟩) 2 2]) (.head _) (by rw [Nat.zero_add]; exact List.getElem?_eq_getElem hi)) rfl (by simp only [maxLen]; omega) (by omega) ?_
        intro R' hR'
        refine x_val rfl rfl rfl (v_assign rfl) ?_
        refine x_end ?_
        refine t_norm ?_
        refine w_seq ?_
        refine rg_text ?_
        refine x_val rfl rfl rfl (v_move rfl) ?_
        refine x_val rfl rfl rfl (v_rem rfl rfl (by decide)) ?_
        refine x_bool rfl rfl rfl (v_eql rfl rfl) ?_
        intro b137 hb137
        refine x_end ?_
        refine t_norm ?_
        refine w_cond rfl (fun hc137 => ?_) (fun hc137 => ?_)
        · have hodd : k % 2 = 1 := by
            have := of_decide_eq_true (hb137.symm.trans hc137)
            rw [show ((k : Nat) : Int).tmod 2 = ((k % 2 : Nat) : Int) from rfl] at this
            omega
          refine rg_text ?_
          refine x_val rfl rfl rfl (v_move rfl) ?_
          refine x_val rfl rfl rfl (v_saddL (a := (sgHead g ++ sgMsg g 0 (ts.take k)) ++ (((((([13, 10, 32, 32, 88, 89, 90] ++ [g.e]) ++ (escR g.r (bl ts[k]))) ++ [g.c]) ++ [g.e]) ++ (escR g.r (bl ts[k]))) ++ [g.n])) (b := [10]) rfl rfl (by simp only [List.length_append, List.length_cons, List.length_nil, escR_len, bl_len] at hmz ⊢; omega)) ?_
          refine x_val rfl rfl rfl (v_assign rfl) ?_
          refine x_end ?_
          refine b_norm ?_
          refine t_norm ?_
          refine rg_text ?_
          refine x_val rfl rfl rfl (v_addi rfl rfl rfl (by first | omega | (dsimp only; omega))) ?_
          refine x_val rfl rfl rfl (v_move rfl) ?_
          refine x_end ?_
          have hsub : (rowO 40 R' ++ [(p3, Obj.cells g.cells.toArray 37)]).Sublist (([(p133, Obj.cells [Value.string xyz, .slice (some ⟨p131, 0, none⟩) 2 2].toArray 40), (p131, Obj.cells [Value.slice (some ⟨p128, 0, none⟩) 2 2, .slice (some ⟨p130, 0, none⟩) 1 1].toArray 25), (p130, Obj.cells [Value.string ts[k]].toArray 9), (p128, Obj.cells [Value.string ts[k], .string ⟨#[]⟩].toArray 9)] ++ rowO 5 r4) ++ (rowO 40 R' ++ [(p3, Obj.cells g.cells.toArray 37)])) := List.sublist_append_right _ _
          refine s_fix (rowO 40 R' ++ [(p3, Obj.cells g.cells.toArray 37)]) (by simpa only [List.append_assoc] using hsub) (fun w0 hm => ?_)
          have hm0 := hm.to (own' := ([(p133, Obj.cells [Value.string xyz, .slice (some ⟨p131, 0, none⟩) 2 2].toArray 40), (p131, Obj.cells [Value.slice (some ⟨p128, 0, none⟩) 2 2, .slice (some ⟨p130, 0, none⟩) 1 1].toArray 25), (p130, Obj.cells [Value.string ts[k]].toArray 9), (p128, Obj.cells [Value.string ts[k], .string ⟨#[]⟩].toArray 9)] ++ rowO 5 r4) ++ (rowO 40 R' ++ [(p3, Obj.cells g.cells.toArray 37)])) (by simp only [List.append_assoc])
          have hnw : ∀ q ∈ [(p133, Obj.cells [Value.string xyz, .slice (some ⟨p131, 0, none⟩) 2 2].toArray 40), (p131, Obj.cells [Value.slice (some ⟨p128, 0, none⟩) 2 2, .slice (some ⟨p130, 0, none⟩) 1 1].toArray 25), (p130, Obj.cells [Value.string ts[k]].toArray 9), (p128, Obj.cells [Value.string ts[k], .string ⟨#[]⟩].toArray 9)], newD w (rowO 40 R' ++ [(p3, Obj.cells g.cells.toArray 37)]) q.1 := fun q hq => ⟨hm0.newer (by simp) (List.mem_append_left _ (List.mem_append_left _ hq)), hm0.notIn (List.Sublist.refl _) (List.mem_append_left _ hq)⟩
          have i1 : sliceRd tyStr (newD w (rowO 40 R' ++ [(p3, Obj.cells g.cells.toArray 37)])) w0 (.slice (some ⟨p128, 0, none⟩) 2 2) [ts[k], ⟨#[]⟩] := lits_own (e := 9) [[Value.string ts[k]], [.string ⟨#[]⟩]] hm0 (List.mem_append_left _ (List.mem_append_left _ (show (p128, Obj.cells [Value.string ts[k], .string ⟨#[]⟩].toArray 9) ∈ [(p133, Obj.cells [Value.string xyz, .slice (some ⟨p131, 0, none⟩) 2 2].toArray 40), (p131, Obj.cells [Value.slice (some ⟨p128, 0, none⟩) 2 2, .slice (some ⟨p130, 0, none⟩) 1 1].toArray 25), (p130, Obj.cells [Value.string ts[k]].toArray 9), (p128, Obj.cells [Value.string ts[k], .string ⟨#[]⟩].toArray 9)] from (by repeat (first | exact List.Mem.head _ | apply List.Mem.tail))))) rfl (by simp) (hnw (p128, Obj.cells [Value.string ts[k], .string ⟨#[]⟩].toArray 9) (by repeat (first | exact List.Mem.head _ | apply List.Mem.tail))) ⟨⟨rfl, htok⟩, ⟨rfl, okS_small (by decide)⟩, trivial⟩
          have i2 : sliceRd tyStr (newD w (rowO 40 R' ++ [(p3, Obj.cells g.cells.toArray 37)])) w0 (.slice (some ⟨p130, 0, none⟩) 1 1) [ts[k]] := lits_own (e := 9) [[Value.string ts[k]]] hm0 (List.mem_append_left _ (List.mem_append_left _ (show (p130, Obj.cells [Value.string ts[k]].toArray 9) ∈ [(p133, Obj.cells [Value.string xyz, .slice (some ⟨p131, 0, none⟩) 2 2].toArray 40), (p131, Obj.cells [Value.slice (some ⟨p128, 0, none⟩) 2 2, .slice (some ⟨p130, 0, none⟩) 1 1].toArray 25), (p130, Obj.cells [Value.string ts[k]].toArray 9), (p128, Obj.cells [Value.string ts[k], .string ⟨#[]⟩].toArray 9)] from (by repeat (first | exact List.Mem.head _ | apply List.Mem.tail))))) rfl (by simp) (hnw (p130, Obj.cells [Value.string ts[k]].toArray 9) (by repeat (first | exact List.Mem.head _ | apply List.Mem.tail))) ⟨⟨rfl, htok⟩, trivial⟩
          have i3 : sliceRd (tySlice tyStr) (newD w (rowO 40 R' ++ [(p3, Obj.cells g.cells.toArray 37)])) w0 (.slice (some ⟨p131, 0, none⟩) 2 2) (sgWant ts[k]).els := lits_own (e := 25) [[Value.slice (some ⟨p128, 0, none⟩) 2 2], [.slice (some ⟨p130, 0, none⟩) 1 1]] hm0 (List.mem_append_left _ (List.mem_append_left _ (show (p131, Obj.cells [Value.slice (some ⟨p128, 0, none⟩) 2 2, .slice (some ⟨p130, 0, none⟩) 1 1].toArray 25) ∈ [(p133, Obj.cells [Value.string xyz, .slice (some ⟨p131, 0, none⟩) 2 2].toArray 40), (p131, Obj.cells [Value.slice (some ⟨p128, 0, none⟩) 2 2, .slice (some ⟨p130, 0, none⟩) 1 1].toArray 25), (p130, Obj.cells [Value.string ts[k]].toArray 9), (p128, Obj.cells [Value.string ts[k], .string ⟨#[]⟩].toArray 9)] from (by repeat (first | exact List.Mem.head _ | apply List.Mem.tail))))) rfl (by simp [sgWant]) (hnw (p131, Obj.cells [Value.slice (some ⟨p128, 0, none⟩) 2 2, .slice (some ⟨p130, 0, none⟩) 1 1].toArray 25) (by repeat (first | exact List.Mem.head _ | apply List.Mem.tail))) ⟨⟨_, rfl, i1⟩, ⟨_, rfl, i2⟩, trivial⟩
          have hT' := snocN (T := tySeg) (D := newD w (rowO 40 R' ++ [(p3, Obj.cells g.cells.toArray 37)])) (ws := w0) (x := sgWant ts[k]) hln hcl (fun j h1 h2 => tySeg.keep (hrd j h1 h2) (Kept.frz hm0 hsub (by simp))) hR' (tySeg_mk rfl (okS_small (show 3 ≤ 100000 by decide)) i3)
          have hm1 : sgMsg g 0 (ts.take (k + 1)) = sgMsg g 0 (ts.take k) ++ segL g k (bl ts[k]) := by rw [List.take_succ_eq_append_getElem hkl, sgMsg_snoc, List.length_take, show 0 + min k ts.length = k by omega]; rfl
          have hsl := segL_len g k (bl ts[k])
          rw [bl_len] at hsl
          have hlen : (sgHead g ++ sgMsg g 0 (ts.take (k + 1))).length ≤ 9 + (k + 1) * 4194320 := by rw [hm1, ← List.append_assoc, List.length_append]; omega
          have hstr : (sgHead g ++ sgMsg g 0 (ts.take (k + 1))) = (((sgHead g ++ sgMsg g 0 (ts.take k)) ++ (((((([13, 10, 32, 32, 88, 89, 90] ++ [g.e]) ++ (escR g.r (bl ts[k]))) ++ [g.c]) ++ [g.e]) ++ (escR g.r (bl ts[k]))) ++ [g.n])) ++ [10]) := by rw [hm1, segL_odd g _ hodd]; simp only [List.append_assoc]
          exact l_norm (x := (k, R, ws)) (μ := fun q : Nat × RowS × World => ts.length - q.1) (k + 1, R', w0) ⟨by dsimp only; omega, hlen, by dsimp only; rw [List.take_succ_eq_append_getElem hkl, List.map_append]; exact hT'⟩ (by simp only; omega) (by dsimp only; rw [hstr]; repeat (first | exact Sub.nil | refine Sub.cons rfl ?_)) (fun w1 h => h.less (List.Sublist.refl _) (fun q hq => by simp at hq ⊢; rcases hq with h | h; (· exact .inl h); simp [h]))
        · have hodd : ¬k % 2 = 1 := by
            have := of_decide_eq_false (hb137.symm.trans hc137)
            rw [show ((k : Nat) : Int).tmod 2 = ((k % 2 : Nat) : Int) from rfl] at this
            omega
          refine w_skip ?_
          refine b_norm ?_
          refine t_norm ?_
          refine rg_text ?_
          refine x_val rfl rfl rfl (v_addi rfl rfl rfl (by first | omega | (dsimp only; omega))) ?_
          refine x_val rfl rfl rfl (v_move rfl) ?_
          refine x_end ?_
          have hsub : (rowO 40 R' ++ [(p3, Obj.cells g.cells.toArray 37)]).Sublist (([(p133, Obj.cells [Value.string xyz, .slice (some ⟨p131, 0, none⟩) 2 2].toArray 40), (p131, Obj.cells [Value.slice (some ⟨p128, 0, none⟩) 2 2, .slice (some ⟨p130, 0, none⟩) 1 1].toArray 25), (p130, Obj.cells [Value.string ts[k]].toArray 9), (p128, Obj.cells [Value.string ts[k], .string ⟨#[]⟩].toArray 9)] ++ rowO 5 r4) ++ (rowO 40 R' ++ [(p3, Obj.cells g.cells.toArray 37)])) := List.sublist_append_right _ _
          refine s_fix (rowO 40 R' ++ [(p3, Obj.cells g.cells.toArray 37)]) (by simpa only [List.append_assoc] using hsub) (fun w0 hm => ?_)
          have hm0 := hm.to (own' := ([(p133, Obj.cells [Value.string xyz, .slice (some ⟨p131, 0, none⟩) 2 2].toArray 40), (p131, Obj.cells [Value.slice (some ⟨p128, 0, none⟩) 2 2, .slice (some ⟨p130, 0, none⟩) 1 1].toArray 25), (p130, Obj.cells [Value.string ts[k]].toArray 9), (p128, Obj.cells [Value.string ts[k], .string ⟨#[]⟩].toArray 9)] ++ rowO 5 r4) ++ (rowO 40 R' ++ [(p3, Obj.cells g.cells.toArray 37)])) (by simp only [List.append_assoc])
          have hnw : ∀ q ∈ [(p133, Obj.cells [Value.string xyz, .slice (some ⟨p131, 0, none⟩) 2 2].toArray 40), (p131, Obj.cells [Value.slice (some ⟨p128, 0, none⟩) 2 2, .slice (some ⟨p130, 0, none⟩) 1 1].toArray 25), (p130, Obj.cells [Value.string ts[k]].toArray 9), (p128, Obj.cells [Value.string ts[k], .string ⟨#[]⟩].toArray 9)], newD w (rowO 40 R' ++ [(p3, Obj.cells g.cells.toArray 37)]) q.1 := fun q hq => ⟨hm0.newer (by simp) (List.mem_append_left _ (List.mem_append_left _ hq)), hm0.notIn (List.Sublist.refl _) (List.mem_append_left _ hq)⟩
          have i1 : sliceRd tyStr (newD w (rowO 40 R' ++ [(p3, Obj.cells g.cells.toArray 37)])) w0 (.slice (some ⟨p128, 0, none⟩) 2 2) [ts[k], ⟨#[]⟩] := lits_own (e := 9) [[Value.string ts[k]], [.string ⟨#[]⟩]] hm0 (List.mem_append_left _ (List.mem_append_left _ (show (p128, Obj.cells [Value.string ts[k], .string ⟨#[]⟩].toArray 9) ∈ [(p133, Obj.cells [Value.string xyz, .slice (some ⟨p131, 0, none⟩) 2 2].toArray 40), (p131, Obj.cells [Value.slice (some ⟨p128, 0, none⟩) 2 2, .slice (some ⟨p130, 0, none⟩) 1 1].toArray 25), (p130, Obj.cells [Value.string ts[k]].toArray 9), (p128, Obj.cells [Value.string ts[k], .string ⟨#[]⟩].toArray 9)] from (by repeat (first | exact List.Mem.head _ | apply List.Mem.tail))))) rfl (by simp) (hnw (p128, Obj.cells [Value.string ts[k], .string ⟨#[]⟩].toArray 9) (by repeat (first | exact List.Mem.head _ | apply List.Mem.tail))) ⟨⟨rfl, htok⟩, ⟨rfl, okS_small (by decide)⟩, trivial⟩
          have i2 : sliceRd tyStr (newD w (rowO 40 R' ++ [(p3, Obj.cells g.cells.toArray 37)])) w0 (.slice (some ⟨p130, 0, none⟩) 1 1) [ts[k]] := lits_own (e := 9) [[Value.string ts[k]]] hm0 (List.mem_append_left _ (List.mem_append_left _ (show (p130, Obj.cells [Value.string ts[k]].toArray 9) ∈ [(p133, Obj.cells [Value.string xyz, .slice (some ⟨p131, 0, none⟩) 2 2].toArray 40), (p131, Obj.cells [Value.slice (some ⟨p128, 0, none⟩) 2 2, .slice (some ⟨p130, 0, none⟩) 1 1].toArray 25), (p130, Obj.cells [Value.string ts[k]].toArray 9), (p128, Obj.cells [Value.string ts[k], .string ⟨#[]⟩].toArray 9)] from (by repeat (first | exact List.Mem.head _ | apply List.Mem.tail))))) rfl (by simp) (hnw (p130, Obj.cells [Value.string ts[k]].toArray 9) (by repeat (first | exact List.Mem.head _ | apply List.Mem.tail))) ⟨⟨rfl, htok⟩, trivial⟩
          have i3 : sliceRd (tySlice tyStr) (newD w (rowO 40 R' ++ [(p3, Obj.cells g.cells.toArray 37)])) w0 (.slice (some ⟨p131, 0, none⟩) 2 2) (sgWant ts[k]).els := lits_own (e := 25) [[Value.slice (some ⟨p128, 0, none⟩) 2 2], [.slice (some ⟨p130, 0, none⟩) 1 1]] hm0 (List.mem_append_left _ (List.mem_append_left _ (show (p131, Obj.cells [Value.slice (some ⟨p128, 0, none⟩) 2 2, .slice (some ⟨p130, 0, none⟩) 1 1].toArray 25) ∈ [(p133, Obj.cells [Value.string xyz, .slice (some ⟨p131, 0, none⟩) 2 2].toArray 40), (p131, Obj.cells [Value.slice (some ⟨p128, 0, none⟩) 2 2, .slice (some ⟨p130, 0, none⟩) 1 1].toArray 25), (p130, Obj.cells [Value.string ts[k]].toArray 9), (p128, Obj.cells [Value.string ts[k], .string ⟨#[]⟩].toArray 9)] from (by repeat (first | exact List.Mem.head _ | apply List.Mem.tail))))) rfl (by simp [sgWant]) (hnw (p131, Obj.cells [Value.slice (some ⟨p128, 0, none⟩) 2 2, .slice (some ⟨p130, 0, none⟩) 1 1].toArray 25) (by repeat (first | exact List.Mem.head _ | apply List.Mem.tail))) ⟨⟨_, rfl, i1⟩, ⟨_, rfl, i2⟩, trivial⟩
          have hT' := snocN (T := tySeg) (D := newD w (rowO 40 R' ++ [(p3, Obj.cells g.cells.toArray 37)])) (ws := w0) (x := sgWant ts[k]) hln hcl (fun j h1 h2 => tySeg.keep (hrd j h1 h2) (Kept.frz hm0 hsub (by simp))) hR' (tySeg_mk rfl (okS_small (show 3 ≤ 100000 by decide)) i3)
          have hm1 : sgMsg g 0 (ts.take (k + 1)) = sgMsg g 0 (ts.take k) ++ segL g k (bl ts[k]) := by rw [List.take_succ_eq_append_getElem hkl, sgMsg_snoc, List.length_take, show 0 + min k ts.length = k by omega]; rfl
          have hsl := segL_len g k (bl ts[k])
          rw [bl_len] at hsl
          have hlen : (sgHead g ++ sgMsg g 0 (ts.take (k + 1))).length ≤ 9 + (k + 1) * 4194320 := by rw [hm1, ← List.append_assoc, List.length_append]; omega
          have hstr : (sgHead g ++ sgMsg g 0 (ts.take (k + 1))) = ((sgHead g ++ sgMsg g 0 (ts.take k)) ++ (((((([13, 10, 32, 32, 88, 89, 90] ++ [g.e]) ++ (escR g.r (bl ts[k]))) ++ [g.c]) ++ [g.e]) ++ (escR g.r (bl ts[k]))) ++ [g.n])) := by rw [hm1, segL_even g _ hodd]; simp only [List.append_assoc]
          exact l_norm (x := (k, R, ws)) (μ := fun q : Nat × RowS × World => ts.length - q.1) (k + 1, R', w0) ⟨by dsimp only; omega, hlen, by dsimp only; rw [List.take_succ_eq_append_getElem hkl, List.map_append]; exact hT'⟩ (by simp only; omega) (by dsimp only; rw [hstr]; repeat (first | exact Sub.nil | refine Sub.cons rfl ?_)) (fun w1 h => h.less (List.Sublist.refl _) (fun q hq => by simp at hq ⊢; rcases hq with h | h; (· exact .inl h); simp [h]))
    · simp only [hb84, decide_eq_true_eq, decide_eq_false_iff_not, Bool.and_eq_true, Bool.or_eq_true, Bool.and_eq_false_iff, Bool.or_eq_false_iff, Bool.not_eq_true', Bool.not_eq_false', ne_eq, Decidable.not_not] at hc84
      obtain rfl : k = ts.length := by omega
      rw [List.take_length] at hT hln hmz
      rw [List.take_length]
      have hps : (⟨(sgHead g ++ sgMsg g 0 ts).toArray⟩ : ByteArray).size ≤ 200000000 := by rw [mk_size]; omega
      have hlaw := signs_law (s := ⟨(sgHead g ++ sgMsg g 0 ts).toArray⟩) hg hn8 rfl
      refine w_exit ?_
      refine t_exit ?_
      refine t_exit ?_
      refine b_hit ?_
      refine t_norm ?_
      refine w_seq ?_
      refine rg_text ?_
      refine x_val rfl rfl rfl (v_move rfl) ?_
      refine x_call (R := fun v wa wb => ∃ A c, v = .tuple #[.slice A (parR ⟨(sgHead g ++ sgMsg g 0 ts).toArray⟩).1.length c, .int .i64 (parR ⟨(sgHead g ++ sgMsg g 0 ts).toArray⟩).2.1, .int .i64 (parR ⟨(sgHead g ++ sgMsg g 0 ts).toArray⟩).2.2] ∧ sliceRd tySeg (fun b => wa.heap.size ≤ b) wb (.slice A (parR ⟨(sgHead g ++ sgMsg g 0 ts).toArray⟩).1.length c) (parR ⟨(sgHead g ++ sgMsg g 0 ts).toArray⟩).1) rfl rfl rfl Tryd.func7 (by kernel_rfl) rfl (fun w1 hw1 => (c_Parse ⟨(sgHead g ++ sgMsg g 0 ts).toArray⟩ w1 hps).mono fun e w2 ⟨v, h1, h2, h3⟩ => by obtain ⟨A, c, rfl, _⟩ := id h3; exact ⟨_, h1, h2, A, c, rfl, h3⟩) ?_
      intro v143 wa143 wb143 hm143 hl143 hR143
      obtain ⟨A143, c143, rfl, hp143⟩ := hR143
      refine x_val rfl rfl rfl (v_move rfl) ?_
      refine x_val rfl rfl rfl (v_extract rfl rfl) ?_
      refine x_val rfl rfl rfl (v_extract rfl rfl) ?_
      refine x_val rfl rfl rfl (v_extract rfl rfl) ?_
      refine x_val rfl rfl rfl (v_assign rfl) ?_
      refine x_val rfl rfl rfl (v_assign rfl) ?_
      refine x_val rfl rfl rfl (v_assign rfl) ?_
      refine x_end ?_
      refine t_norm ?_
      refine w_seq ?_
      refine rg_text ?_
      refine x_val rfl rfl rfl (v_move rfl) ?_
      refine x_val rfl rfl rfl (v_move rfl) ?_
      refine x_if [] rfl rfl rfl rfl rfl (fun hg => by obtain ⟨hg0, _⟩ := hg; (try simp only [List.cons_append, List.nil_append, gvl_nil, gvl_t, gvl_f]); exact v_move rfl) ?_
      refine x_ifb [] rfl rfl rfl rfl rfl (fun hg => by obtain ⟨hg0, _⟩ := hg; (try simp only [List.cons_append, List.nil_append, gvl_nil, gvl_t, gvl_f]); exact v_eql rfl rfl) ?_
      intro b150 hb150
      refine x_bool rfl rfl rfl (v_and rfl rfl) ?_
      intro b151 hb151
      refine x_val rfl rfl rfl (v_move rfl) ?_
      refine x_if [] rfl rfl rfl rfl rfl (fun hg => by obtain ⟨hg0, _⟩ := hg; subst hg0; (try simp only [List.cons_append, List.nil_append, gvl_nil, gvl_t, gvl_f]); exact v_move rfl) ?_
      refine x_if [] rfl rfl rfl rfl rfl (fun hg => by obtain ⟨hg0, _⟩ := hg; subst hg0; (try simp only [List.cons_append, List.nil_append, gvl_nil, gvl_t, gvl_f]); exact v_move rfl) ?_
      refine x_call_ifb [] rfl rfl rfl rfl rfl Tryd.func9 (by kernel_rfl) (fun hg => by obtain ⟨hg0, _⟩ := hg; subst hg0; (try simp only [List.cons_append, List.nil_append, gvl_nil, gvl_t, gvl_f]); refine ⟨_, rfl, ?_⟩; exact fun w1 hw1 => c_Same (xs := (parR ⟨(sgHead g ++ sgMsg g 0 ts).toArray⟩).1) (ys := ts.map sgWant) w1 (keep_new hp143 hw1 (by repeat (first | exact List.Mem.head _ | apply List.Mem.tail)) hm143) ((hT.keep (Kept.frz hw1 (List.Sublist.refl _) (by repeat (first | exact List.Mem.head _ | apply List.Mem.tail)))).rd (D' := fun _ => True) (e := 40) hw1 (fun q hq => List.mem_append_left _ hq) (fun _ _ => trivial) (fun _ _ => trivial) hln.symm)) ?_
      intro b155 hb155
      refine x_bool rfl rfl rfl (v_and rfl rfl) ?_
      intro b156 hb156
      refine x_val rfl rfl rfl (v_assign rfl) ?_
      refine x_end ?_
      refine t_norm ?_
      refine w_ret ?_
      refine ret1 rfl rfl (fun w' hm => ⟨?_, hm.base (by simp)⟩)
      rw [hb156, hb155, hb151, hb150, hlaw]; simp

end Go.Proofs.YtbamklefagghcaaDoor

namespace Go.Proofs.YtbamklefagghcaaDoor
open Go.RowKit Go.PK
set_option linter.unusedVariables false
set_option linter.unusedSimpArgs false

def laidL : List (String × DataW Unit) := [("math/bits.deBruijn32tab", Rows.laid_math_bits_deBruijn32tab), ("math/bits.deBruijn64tab", Rows.laid_math_bits_deBruijn64tab), ("internal/strconv.uint64pow10", Rows.laid_internal_strconv_uint64pow10), ("unicode/utf8.acceptRanges", Rows.laid_unicode_utf8_acceptRanges), ("unicode/utf8.first", Rows.laid_unicode_utf8_first)]
theorem noHandle {W : World} (h : laidMetH Tryd.prog laidL W) : laidMet Tryd.prog laidL W := by
  have h1 := (laidMetH_iff.1 h).1
  rwa [show (laidL.filter fun x => x.2.handleName?.isNone) = laidL from by kernel_rfl] at h1
theorem laid_tab {W : World} (h : laidMet Tryd.prog laidL W) : Lib.TabIs Tryd.prog W "internal/strconv.uint64pow10" .u64 Lib.pow10Tab := by
  have h1 := h.filter fun x => x.1 == "internal/strconv.uint64pow10"
  have e : (laidL.filter fun x => x.1 == "internal/strconv.uint64pow10") = [("internal/strconv.uint64pow10", Lib.tabData .u64 Lib.pow10Tab)] := by kernel_rfl
  rw [e] at h1
  exact Lib.tabIs_of_head (g := 1) (t := 117) (e := 109) (n := 20) (by kernel_rfl) (by kernel_rfl) (by kernel_rfl) (by kernel_rfl) (by kernel_rfl) (by kernel_rfl) h1
theorem ld_of {W : World} (h : laidMetH Tryd.prog laidL W) (hS : W.ShapedOpen Tryd.prog) : LD W := ⟨laid_tab (noHandle h), Tryd.laysM146.s1_3 W hS⟩
theorem laid_met (os : Os) (args : Array Value) : laidMet Tryd.prog laidL ((World.laidAll Tryd.prog os laidL).forCall (fun _ _ => 0) ⟨#[], args, []⟩).memory :=
  laidMet_laidAll args (by kernel_rfl) (by kernel_rfl)
theorem bulk_one {H : Type} (d : DataW H) : 1 ≤ Rows.uptoBulk d := by
  cases d with
  | lit l => cases l <;> simp [Rows.uptoBulk]
  | nil => simp [Rows.uptoBulk]
  | ptr d => simp [Rows.uptoBulk]
  | slice elems spare => simp [Rows.uptoBulk]
  | agg parts => simp [Rows.uptoBulk]
  | iface t d => simp [Rows.uptoBulk]
  | map entries => simp [Rows.uptoBulk]
  | held h => simp [Rows.uptoBulk]
def meas (H : Type) : Meas H := ⟨Rows.uptoBulk, Rows.uptoBulkAll, fun _ => by simp [Rows.uptoBulk], fun _ _ => by simp [Rows.uptoBulk], fun _ => by simp [Rows.uptoBulk], fun _ _ => by simp [Rows.uptoBulkAll], bulk_one⟩

end Go.Proofs.YtbamklefagghcaaDoor
