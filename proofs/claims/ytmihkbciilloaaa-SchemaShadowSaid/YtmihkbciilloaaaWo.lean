import Derived.Test.YtmihkbciilloaaaWn
namespace Go.Proofs.Ytmihkbciilloaaa
open Go.RowKit Go.PK
set_option linter.unusedVariables false
set_option linter.unusedSimpArgs false

theorem kind_yes {rs : List Rl} {fs : List Fl} {f : Fl} {n : Nat} (h : kindOf (fpb rs fs f n) ≠ 0) : fpb rs fs f n = [⟨n, kindOf (fpb rs fs f n)⟩] := by
  revert h
  unfold fpb tpb
  split
  · split
    · intro _; rfl
    · split
      · intro h; exact absurd rfl h
      · split
        · intro h; exact absurd rfl h
        · intro _; rfl
  · intro _; rfl
theorem tk_ne (j : Nat) : tk j ≠ 0 := by unfold tk; split <;> decide
theorem kind_no {rs : List Rl} {fs : List Fl} {f : Fl} {n : Nat} (h : kindOf (fpb rs fs f n) = 0) : fpb rs fs f n = [] := by
  revert h
  unfold fpb tpb
  split
  · split
    · intro h; exact absurd h (by simp [kindOf])
    · split
      · intro _; rfl
      · split
        · intro _; rfl
        · intro h; exact absurd h (tk_ne _)
  · intro h; exact absurd h (by simp [kindOf])
theorem any_take_succ {α : Type} {p : α → Bool} {xs : List α} {i : Nat} (h : i < xs.length) : (xs.take (i + 1)).any p = ((xs.take i).any p || p xs[i]) := by
  rw [List.take_succ_eq_append_getElem h, List.any_append]; simp
set_option maxRecDepth 100000 in
theorem c16 {v0 v : Value} {rs : List Rl} {fs : List Fl} {D : Nat → Prop} {kd lv : Value} (w : World) (hrs : sliceRd tyRl D w v0 rs) (hfs : sliceRd tyFl D w v fs) (hbd : fs.length + rs.length < 8796093022208) :
    Calls Try.prog 16 #[v0, .agg #[kd, lv, v]] w fun e w' => ∃ v', e = .returned v' ∧ Later w w' ∧ ∃ r, v' = rowV r (chk rs fs).length ∧ rowOK 2 r (chk rs fs).length ((chk rs fs).flatMap pbC) ∧ ∃ own, Mem w' (own ++ rowO 54 r) [(w, fun _ => True)] := by
  obtain ⟨A0, c0, rfl, hlc0, hmx0, hA0⟩ := id hrs
  obtain ⟨A1, c1, rfl, hlc1, hmx1, hA1⟩ := id hfs
  refine enter (vs := [.slice A0 rs.length c0, .agg #[kd, lv, .slice A1 fs.length c1]]) Try.func16 rfl Try.ntmps16 rfl ?_
  refine w_seq ?_
  refine rg_text ?_
  refine x_box rfl rfl rfl rfl ?_
  intro p3
  refine x_val rfl rfl rfl (v_assign rfl) ?_
  refine x_end ?_
  refine t_norm ?_
  refine w_seq ?_
  refine rg_text ?_
  refine x_val rfl rfl rfl (v_assign rfl) ?_
  refine x_end ?_
  refine t_norm ?_
  refine w_seq ?_
  refine w_seq ?_
  refine rg_text ?_
  refine x_val rfl rfl rfl (v_assign rfl) ?_
  refine x_end ?_
  refine t_norm ?_
  refine w_block ?_
  refine w_loop (σ := Nat × RowS) (fun x => x.1 ≤ fs.length ∧ rowOK 2 x.2 (chkF rs fs x.1).length ((chkF rs fs x.1).flatMap pbC)) (fun x => [(0, .slice A0 rs.length c0), (3, .pointer (some ⟨p3, 0, none⟩)), (5, rowV x.2 (chkF rs fs x.1).length), (6, Value.int .i64 (x.1 : Nat))]) (fun x => rowO 54 x.2 ++ [(p3, Obj.cells #[kd, lv, .slice A1 fs.length c1] 32)]) (fun x => [(w, fun _ => True)]) (fun x => fs.length - x.1) ((0, none)) (⟨Nat.zero_le _, rowOK_nil⟩) (l_start (by repeat (first | exact Sub.nil | refine Sub.cons rfl ?_)) (fun _ h => h)) ?_
  rintro ⟨k, r⟩ ⟨hk, hr⟩
  dsimp only at hk hr
  refine w_seq ?_
  refine w_seq ?_
  refine rg_text ?_
  refine x_val rfl rfl rfl (v_move rfl) ?_
  refine x_val rfl rfl rfl (v_fieldAddr (off' := 2) Try.underlying32 rfl sz30 (by decide) rfl rfl) ?_
  refine x_val rfl rfl rfl (v_load Try.underlying30 rfl rfl (at_ownL (vs := [kd, lv, .slice A1 fs.length c1]) (List.mem_append_right _ (.head _)) rfl)) ?_
  refine x_val rfl rfl rfl (v_len_slice Try.underlying30 rfl) ?_
  refine x_bool rfl rfl rfl (v_lss rfl rfl) ?_
  intro b16 hb16
  refine x_end ?_
  refine t_norm ?_
  refine w_cond rfl (fun hc16 => ?_) (fun hc16 => ?_)
  · simp only [hb16, decide_eq_true_eq, decide_eq_false_iff_not, Bool.and_eq_true, Bool.or_eq_true, Bool.and_eq_false_iff, Bool.or_eq_false_iff, Bool.not_eq_true', Bool.not_eq_false', ne_eq, Decidable.not_not] at hc16
    have hkf : k < fs.length := by omega
    refine w_skip ?_
    refine t_norm ?_
    refine w_seq ?_
    refine w_block ?_
    refine w_seq ?_
    refine rg_text ?_
    refine x_val rfl rfl rfl (v_move rfl) ?_
    refine x_val rfl rfl rfl (v_fieldAddr (off' := 2) Try.underlying32 rfl sz30 (by decide) rfl rfl) ?_
    refine x_val rfl rfl rfl (v_load Try.underlying30 rfl rfl (at_ownL (vs := [kd, lv, .slice A1 fs.length c1]) (List.mem_append_right _ (.head _)) rfl)) ?_
    refine x_val rfl rfl rfl (v_move rfl) ?_
    refine x_callv rfl rfl rfl Try.func31 (by kernel_rfl) rfl (fun w1 hw1 => c31 k hkf w1 (hrs.keep (Kept.later (hw1.base (by simp)))) (hfs.keep (Kept.later (hw1.base (by simp))))) ?_
    refine x_val rfl rfl rfl (v_assign rfl) ?_
    refine x_end ?_
    refine t_norm ?_
    refine w_seq ?_
    refine rg_text ?_
    refine x_val rfl rfl rfl (v_move rfl) ?_
    refine x_bool rfl rfl rfl (v_neq rfl rfl) ?_
    intro b25 hb25
    refine x_end ?_
    refine t_norm ?_
    refine w_cond rfl (fun hc25 => ?_) (fun hc25 => ?_)
    · simp only [hb25, decide_eq_true_eq, decide_eq_false_iff_not, Bool.and_eq_true, Bool.or_eq_true, Bool.and_eq_false_iff, Bool.or_eq_false_iff, Bool.not_eq_true', Bool.not_eq_false', ne_eq, Decidable.not_not] at hc25
      refine rg_text ?_
      refine x_val rfl rfl rfl (v_move rfl) ?_
      refine x_val rfl rfl rfl (v_move rfl) ?_
      refine x_val rfl rfl rfl (v_move rfl) ?_
      refine x_val rfl rfl rfl (v_buildL (places := [(0, 1), (1, 1)]) Try.underlying54 zr54 (by kernel_rfl) rfl rfl) ?_
      refine x_buildSliceL rfl rfl rfl Try.underlying35 sz54 zr54 rfl rfl rfl ?_
      intro p30
      refine x_append (e := 54) [(p30, _)] (l2 := [(p3, Obj.cells #[kd, lv, .slice A1 fs.length c1] 32)]) r (len := (chkF rs fs k).length) (xs := ((chkF rs fs k).flatMap pbC)) rfl rfl rfl rfl rfl hr Try.underlying35 ap54 rfl rfl (m := 1) (news := [Value.int .i64 (k : Nat), Value.int .i64 (kindOf (fpb rs fs fs[k] k))]) (fun j hj => at_ownL (vs := [Value.int .i64 (k : Nat), Value.int .i64 (kindOf (fpb rs fs fs[k] k))]) (.head _) (by simp)) rfl (by simp only [maxLen]; have := chkF_len rs fs k; omega) (by have := chkF_len rs fs k; omega) ?_
      intro r' hr'
      refine x_val rfl rfl rfl (v_assign rfl) ?_
      refine x_end ?_
      refine b_norm ?_
      refine t_norm ?_
      refine rg_text ?_
      refine x_val rfl rfl rfl (v_move rfl) ?_
      refine x_val rfl rfl rfl (v_addi rfl rfl rfl (by first | omega | (dsimp only; omega))) ?_
      refine x_val rfl rfl rfl (v_assign rfl) ?_
      refine x_end ?_
      have hck : chkF rs fs (k + 1) = chkF rs fs k ++ [⟨k, kindOf (fpb rs fs fs[k] k)⟩] := by rw [chkF_succ hkf, kind_yes hc25]; rfl
      exact l_norm (k + 1, r') ⟨by omega, by dsimp only; rw [hck]; exact row_snoc hr'⟩ (by simp only; omega) (by repeat (first | exact Sub.nil | refine Sub.cons (by first | rfl | rw [hck]; simp; rfl) ?_)) (fun w1 h => by dsimp only; exact h.less (List.sublist_cons_self _ _) (fun _ h => h))
    · simp only [hb25, decide_eq_true_eq, decide_eq_false_iff_not, Bool.and_eq_true, Bool.or_eq_true, Bool.and_eq_false_iff, Bool.or_eq_false_iff, Bool.not_eq_true', Bool.not_eq_false', ne_eq, Decidable.not_not] at hc25
      refine w_skip ?_
      refine b_norm ?_
      refine t_norm ?_
      refine rg_text ?_
      refine x_val rfl rfl rfl (v_move rfl) ?_
      refine x_val rfl rfl rfl (v_addi rfl rfl rfl (by first | omega | (dsimp only; omega))) ?_
      refine x_val rfl rfl rfl (v_assign rfl) ?_
      refine x_end ?_
      have hck : chkF rs fs (k + 1) = chkF rs fs k := by rw [chkF_succ hkf, kind_no hc25, List.append_nil]
      exact l_norm (k + 1, r) ⟨by omega, by dsimp only; rw [hck]; exact hr⟩ (by simp only; omega) (by repeat (first | exact Sub.nil | refine Sub.cons (by first | rfl | (rw [hck]; rfl)) ?_)) (fun w1 h => h)
  · simp only [hb16, decide_eq_true_eq, decide_eq_false_iff_not, Bool.and_eq_true, Bool.or_eq_true, Bool.and_eq_false_iff, Bool.or_eq_false_iff, Bool.not_eq_true', Bool.not_eq_false', ne_eq, Decidable.not_not] at hc16
    obtain rfl : k = fs.length := by omega
    refine w_exit ?_
    refine t_exit ?_
    refine t_exit ?_
    refine b_hit ?_
    refine t_norm ?_
    refine w_seq ?_
    refine w_seq ?_
    refine rg_text ?_
    refine x_val rfl rfl rfl (v_assign rfl) ?_
    refine x_end ?_
    refine t_norm ?_
    refine w_block ?_
    refine w_loop (σ := Nat × RowS) (fun x => x.1 ≤ rs.length ∧ rowOK 2 x.2 (chkM rs fs x.1).length ((chkM rs fs x.1).flatMap pbC)) (fun x => [(0, .slice A0 rs.length c0), (3, .pointer (some ⟨p3, 0, none⟩)), (5, rowV x.2 (chkM rs fs x.1).length), (8, Value.int .i64 (x.1 : Nat))]) (fun x => rowO 54 x.2 ++ [(p3, Obj.cells #[kd, lv, .slice A1 fs.length c1] 32)]) (fun x => [(w, fun _ => True)]) (fun x => rs.length - x.1) ((0, r)) (⟨Nat.zero_le _, hr⟩) (l_start (by repeat (first | exact Sub.nil | refine Sub.cons rfl ?_)) (fun _ h => h)) ?_
    rintro ⟨k, r⟩ ⟨hk, hr⟩
    dsimp only at hk hr
    refine w_seq ?_
    refine w_seq ?_
    refine rg_text ?_
    refine x_val rfl rfl rfl (v_move rfl) ?_
    refine x_val rfl rfl rfl (v_move rfl) ?_
    refine x_val rfl rfl rfl (v_len_slice Try.underlying23 rfl) ?_
    refine x_bool rfl rfl rfl (v_lss rfl rfl) ?_
    intro b35 hb35
    refine x_end ?_
    refine t_norm ?_
    refine w_cond rfl (fun hc35 => ?_) (fun hc35 => ?_)
    · simp only [hb35, decide_eq_true_eq, decide_eq_false_iff_not, Bool.and_eq_true, Bool.or_eq_true, Bool.and_eq_false_iff, Bool.or_eq_false_iff, Bool.not_eq_true', Bool.not_eq_false', ne_eq, Decidable.not_not] at hc35
      have hkr : k < rs.length := by omega
      refine w_skip ?_
      refine t_norm ?_
      refine w_seq ?_
      refine w_block ?_
      refine w_seq ?_
      refine rg_text ?_
      refine x_val rfl rfl rfl (v_assign rfl) ?_
      refine x_end ?_
      refine t_norm ?_
      refine w_seq ?_
      refine w_seq ?_
      refine rg_text ?_
      refine x_val rfl rfl rfl (v_assign rfl) ?_
      refine x_end ?_
      refine t_norm ?_
      refine w_block ?_
      refine w_loop (σ := Nat × Bool) (fun x => x.1 ≤ fs.length ∧ x.2 = (fs.take x.1).any (fun f => mtc rs[k].tag f.tag)) (fun x => [(0, .slice A0 rs.length c0), (3, .pointer (some ⟨p3, 0, none⟩)), (5, rowV r (chkM rs fs k).length), (8, Value.int .i64 (k : Nat)), (9, .bool x.2), (10, Value.int .i64 (x.1 : Nat))]) (fun x => rowO 54 r ++ [(p3, Obj.cells #[kd, lv, .slice A1 fs.length c1] 32)]) (fun x => [(w, fun _ => True)]) (fun x => fs.length - x.1) ((0, false)) (⟨Nat.zero_le _, rfl⟩) (l_start (by repeat (first | exact Sub.nil | refine Sub.cons rfl ?_)) (fun _ h => h)) ?_
      rintro ⟨i, b9⟩ ⟨hi, hb9⟩
      dsimp only at hi hb9
      refine w_seq ?_
      refine w_seq ?_
      refine rg_text ?_
      refine x_val rfl rfl rfl (v_move rfl) ?_
      refine x_val rfl rfl rfl (v_fieldAddr (off' := 2) Try.underlying32 rfl sz30 (by decide) rfl rfl) ?_
      refine x_val rfl rfl rfl (v_load Try.underlying30 rfl rfl (at_ownL (vs := [kd, lv, .slice A1 fs.length c1]) (List.mem_append_right _ (.head _)) rfl)) ?_
      refine x_val rfl rfl rfl (v_len_slice Try.underlying30 rfl) ?_
      refine x_bool rfl rfl rfl (v_lss rfl rfl) ?_
      intro b42 hb42
      refine x_end ?_
      refine t_norm ?_
      refine w_cond rfl (fun hc42 => ?_) (fun hc42 => ?_)
      · simp only [hb42, decide_eq_true_eq, decide_eq_false_iff_not, Bool.and_eq_true, Bool.or_eq_true, Bool.and_eq_false_iff, Bool.or_eq_false_iff, Bool.not_eq_true', Bool.not_eq_false', ne_eq, Decidable.not_not] at hc42
        have hil : i < fs.length := by omega
        obtain ⟨b0, o0, hv0, hD0, hb0, hcell0⟩ := hA0 (by omega)
        obtain ⟨cs0, hcs0, hrd0, hok0⟩ := hcell0 k (by omega)
        subst hrd0
        obtain ⟨B, c, hf, hokf, hsb⟩ := fat_of hfs (show i < fs.length by omega)
        obtain ⟨b, off, len, cap, hv, hnl, hlen, hcs⟩ := hf.ex
        refine w_skip ?_
        refine t_norm ?_
        refine w_seq ?_
        refine w_block ?_
        refine w_seq ?_
        refine rg_draw 13 [(true, 0), (true, 1), (true, 2), (true, 3), (true, 4), (true, 5), (true, 6), (true, 7), (true, 8), (true, 9), (true, 10), (true, 11), (true, 12)] (by kernel_rfl) (by kernel_rfl) ?_
        refine x_val rfl rfl rfl (v_move rfl) ?_
        refine x_val rfl rfl rfl (v_move rfl) ?_
        refine x_val rfl rfl rfl (v_indexAddr Try.underlying23 sz27 (congrArg (fun A => some (Value.slice A rs.length c0)) hv0) rfl (by first | omega | (dsimp only; omega)) rfl) ?_
        refine x_val rfl rfl rfl (v_fieldAddr Try.underlying27 rfl sz9 (by decide) rfl rfl) ?_
        refine x_val rfl rfl rfl (v_load Try.underlying9 rfl rfl (at_ro (.head _) trivial (hcs0 0 (by show 0 < 7; omega)))) ?_
        refine x_val rfl rfl rfl (v_fieldAddr (off' := 2) Try.underlying32 rfl sz30 (by decide) rfl rfl) ?_
        refine x_val rfl rfl rfl (v_load Try.underlying30 rfl rfl (at_ownL (vs := [kd, lv, .slice A1 fs.length c1]) (List.mem_append_right _ (.head _)) rfl)) ?_
        refine x_val rfl rfl rfl (v_move rfl) ?_
        refine x_val rfl rfl rfl (v_indexAddr Try.underlying30 sz46 (congrArg some hv) rfl (by first | omega | (dsimp only; omega)) rfl) ?_
        refine x_val rfl rfl rfl (v_fieldAddr Try.underlying46 rfl sz9 (by decide) rfl rfl) ?_
        refine x_val rfl rfl rfl (v_load Try.underlying9 rfl rfl (at_ro (.head _) trivial (hcs 0 (by show 0 < 4; omega)))) ?_
        refine x_callb rfl rfl rfl Try.func32 (by kernel_rfl) rfl (fun w1 hw1 => c32 _ _ w1 hok0.1 hokf.1) ?_
        intro b56 hb56
        refine x_val rfl rfl rfl (v_assign rfl) ?_
        refine x_end ?_
        refine t_norm ?_
        refine rg_text ?_
        refine x_val rfl rfl rfl (v_move rfl) ?_
        refine x_val rfl rfl rfl (v_move rfl) ?_
        refine x_if [] rfl rfl rfl rfl rfl (fun hg => by obtain ⟨hg0, _⟩ := hg; subst hg0; (try simp only [List.cons_append, List.nil_append, gvl_nil, gvl_t, gvl_f]); exact v_move rfl) ?_
        refine x_bool rfl rfl rfl (v_or rfl rfl) ?_
        intro b60 hb60
        refine x_val rfl rfl rfl (v_assign rfl) ?_
        refine x_end ?_
        refine b_norm ?_
        refine t_norm ?_
        refine rg_text ?_
        refine x_val rfl rfl rfl (v_move rfl) ?_
        refine x_val rfl rfl rfl (v_addi rfl rfl rfl (by first | omega | (dsimp only; omega))) ?_
        refine x_val rfl rfl rfl (v_assign rfl) ?_
        refine x_end ?_
        exact l_norm (i + 1, b60) ⟨by omega, by dsimp only; rw [any_take_succ hil, hb60, hb9, hb56]⟩ (by simp only; omega) (by repeat (first | exact Sub.nil | refine Sub.cons rfl ?_)) (fun _ h => h)
      · simp only [hb42, decide_eq_true_eq, decide_eq_false_iff_not, Bool.and_eq_true, Bool.or_eq_true, Bool.and_eq_false_iff, Bool.or_eq_false_iff, Bool.not_eq_true', Bool.not_eq_false', ne_eq, Decidable.not_not] at hc42
        obtain rfl : i = fs.length := by omega
        rw [List.take_length] at hb9
        obtain ⟨b0, o0, hv0, hD0, hb0, hcell0⟩ := hA0 (by omega)
        obtain ⟨cs0, hcs0, hrd0, hok0⟩ := hcell0 k (by omega)
        subst hrd0
        refine w_exit ?_
        refine t_exit ?_
        refine t_exit ?_
        refine b_hit ?_
        refine t_norm ?_
        refine w_seq ?_
        refine rg_text ?_
        refine x_val rfl rfl rfl (v_move rfl) ?_
        refine x_val rfl rfl rfl (v_move rfl) ?_
        refine x_val rfl rfl rfl (v_indexAddr Try.underlying23 sz27 (congrArg (fun A => some (Value.slice A rs.length c0)) hv0) rfl (by first | omega | (dsimp only; omega)) rfl) ?_
        refine x_val rfl rfl rfl (v_fieldAddr Try.underlying27 rfl sz4 (by decide) rfl rfl) ?_
        refine x_bool rfl rfl rfl (v_load Try.underlying4 rfl rfl (at_ro (.head _) trivial (hcs0 1 (by show 1 < 7; omega)))) ?_
        intro b65 hb65
        refine x_val rfl rfl rfl (v_move rfl) ?_
        refine x_if [] rfl rfl rfl rfl rfl (fun hg => by obtain ⟨hg0, _⟩ := hg; subst hg0; (try simp only [List.cons_append, List.nil_append, gvl_nil, gvl_t, gvl_f]); exact v_move rfl) ?_
        refine x_ifb [] rfl rfl rfl rfl rfl (fun hg => by obtain ⟨hg0, _⟩ := hg; subst hg0; (try simp only [List.cons_append, List.nil_append, gvl_nil, gvl_t, gvl_f]); exact v_not rfl) ?_
        intro b68 hb68
        refine x_bool rfl rfl rfl (v_and rfl rfl) ?_
        intro b69 hb69
        refine x_end ?_
        refine t_norm ?_
        refine w_cond rfl (fun hc69 => ?_) (fun hc69 => ?_)
        · have hcc : (rs[k].must && !fs.any (fun f => mtc rs[k].tag f.tag)) = true := by rw [← hc69, hb69, hb68, hb9, hb65]
          refine rg_text ?_
          refine x_val rfl rfl rfl (v_move rfl) ?_
          refine x_val rfl rfl rfl (v_buildL (places := [(0, 1), (1, 1)]) Try.underlying54 zr54 (by kernel_rfl) rfl rfl) ?_
          refine x_buildSliceL rfl rfl rfl Try.underlying35 sz54 zr54 rfl rfl rfl ?_
          intro p72
          refine x_append (e := 54) [(p72, _)] (l2 := [(p3, Obj.cells #[kd, lv, .slice A1 fs.length c1] 32)]) r (len := (chkM rs fs k).length) (xs := ((chkM rs fs k).flatMap pbC)) rfl rfl rfl rfl rfl hr Try.underlying35 ap54 rfl rfl (m := 1) (news := [Value.int .i64 (-1), Value.int .i64 21]) (fun j hj => at_ownL (vs := [Value.int .i64 (-1), Value.int .i64 21]) (.head _) (by simp)) rfl (by simp only [maxLen]; have := chkM_len rs fs k; omega) (by have := chkM_len rs fs k; omega) ?_
          intro r' hr'
          refine x_val rfl rfl rfl (v_assign rfl) ?_
          refine x_end ?_
          refine b_norm ?_
          refine t_norm ?_
          refine rg_text ?_
          refine x_val rfl rfl rfl (v_move rfl) ?_
          refine x_val rfl rfl rfl (v_addi rfl rfl rfl (by first | omega | (dsimp only; omega))) ?_
          refine x_val rfl rfl rfl (v_assign rfl) ?_
          refine x_end ?_
          have hck : chkM rs fs (k + 1) = chkM rs fs k ++ [⟨-1, 21⟩] := by rw [chkM_succ hkr]; unfold mpb; rw [hcc]; rfl
          exact l_norm (k + 1, r') ⟨by omega, by dsimp only; rw [hck]; exact row_snoc hr'⟩ (by simp only; omega) (by repeat (first | exact Sub.nil | refine Sub.cons (by first | rfl | rw [hck]; simp; rfl) ?_)) (fun w1 h => by dsimp only; exact h.less (List.sublist_cons_self _ _) (fun _ h => h))
        · have hcc : (rs[k].must && !fs.any (fun f => mtc rs[k].tag f.tag)) = false := by rw [← hc69, hb69, hb68, hb9, hb65]
          refine w_skip ?_
          refine b_norm ?_
          refine t_norm ?_
          refine rg_text ?_
          refine x_val rfl rfl rfl (v_move rfl) ?_
          refine x_val rfl rfl rfl (v_addi rfl rfl rfl (by first | omega | (dsimp only; omega))) ?_
          refine x_val rfl rfl rfl (v_assign rfl) ?_
          refine x_end ?_
          have hck : chkM rs fs (k + 1) = chkM rs fs k := by rw [chkM_succ hkr]; unfold mpb; rw [hcc]; simp
          exact l_norm (k + 1, r) ⟨by omega, by dsimp only; rw [hck]; exact hr⟩ (by simp only; omega) (by repeat (first | exact Sub.nil | refine Sub.cons (by first | rfl | (rw [hck]; rfl)) ?_)) (fun w1 h => h)
    · simp only [hb35, decide_eq_true_eq, decide_eq_false_iff_not, Bool.and_eq_true, Bool.or_eq_true, Bool.and_eq_false_iff, Bool.or_eq_false_iff, Bool.not_eq_true', Bool.not_eq_false', ne_eq, Decidable.not_not] at hc35
      obtain rfl : k = rs.length := by omega
      refine w_exit ?_
      refine t_exit ?_
      refine t_exit ?_
      refine b_hit ?_
      refine t_norm ?_
      refine w_seq ?_
      refine rg_text ?_
      refine x_val rfl rfl rfl (v_move rfl) ?_
      refine x_val rfl rfl rfl (v_assign rfl) ?_
      refine x_end ?_
      refine t_norm ?_
      refine w_ret ?_
      refine ret1 rfl rfl (fun w' hm => ⟨_, rfl, hm.base (by simp), r, rfl, hr, [], hm.less (List.sublist_append_left _ _) (fun s hs => hs)⟩)

theorem c16w {v0 v : Value} {rs : List Rl} {fs : List Fl} {D : Nat → Prop} {kd lv : Value} (w : World) (hrs : sliceRd tyRl D w v0 rs) (hfs : sliceRd tyFl D w v fs) (hbd : fs.length + rs.length < 8796093022208) :
    Calls Try.prog 16 #[v0, .agg #[kd, lv, v]] w fun e w' => ∃ v', e = .returned v' ∧ Later w w' ∧ sliceRd tyPb (fun b => w.heap.size ≤ b) w' v' (chk rs fs) ∧ ∃ r, v' = rowV r (chk rs fs).length :=
  Calls.mono (c16 w hrs hfs hbd) fun e w' ⟨v', h1, h2, r, h3, h4, own, h5⟩ => ⟨v', h1, h2, h3 ▸ row_rd h5 h4, r, h3⟩

end Go.Proofs.Ytmihkbciilloaaa
