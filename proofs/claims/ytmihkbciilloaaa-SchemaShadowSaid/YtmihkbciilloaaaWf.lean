import Derived.Test.YtmihkbciilloaaaWe
namespace Go.Proofs.Ytmihkbciilloaaa
open Go.RowKit Go.PK
set_option linter.unusedVariables false
set_option linter.unusedSimpArgs false

theorem tfun (j : Nat) (hj : j < 4) : ∃ g, Try.prog.funcs[tf j]? = some g ∧ (!(g.name == "runtime.NumGoroutine") && g.body.isSome) = true := by
  match j, hj with
  | 0, _ => exact ⟨_, Try.func41, by kernel_rfl⟩
  | 1, _ => exact ⟨_, Try.func45, by kernel_rfl⟩
  | 2, _ => exact ⟨_, Try.func47, by kernel_rfl⟩
  | 3, _ => exact ⟨_, Try.func51, by kernel_rfl⟩
theorem ctest {v : Value} {fs : List Fl} {D : Nat → Prop} (j : Nat) (hj : j < 4) (r : Rl) (n : Nat) (hn : n < fs.length) (w : World) (hfs : sliceRd tyFl D w v fs) (hg : td j = false ∨ ctl fs[n].tag = false) (hs : shp fs[n] = true) :
    Calls Try.prog (tf j) #[.agg (plC v n r).toArray] w fun e w' => e = .returned (.bool (tfail r fs fs[n] n j)) ∧ Later w w' := by
  obtain ⟨B, c, hf, hok, hsb⟩ := fat_of hfs hn
  match j, hj with
  | 0, _ => exact c41 r w hfs hn
  | 1, _ =>
    have h2 : fs[n].ind.size = 2 := by
      rcases hg with hg | hg
      · cases hg
      · unfold shp at hs; rw [hg] at hs; simp at hs; exact hs.2.1
    exact c45 r w hf h2
  | 2, _ => exact c47 r w hf hsb
  | 3, _ => exact c51 r w hf hsb
set_option maxRecDepth 100000 in
theorem c18 {v0 v : Value} {rs : List Rl} {fs : List Fl} {D : Nat → Prop} {kd lv : Value} (w : World) (hrs : sliceRd tyRl D w v0 rs) (hfs : sliceRd tyFl D w v fs) (hbd : fs.length + rs.length < 8796093022208) :
    Calls Try.prog 18 #[v0, .agg #[kd, lv, v]] w fun e w' => ∃ v', e = .returned v' ∧ Later w w' ∧ ∃ r, v' = rowV r (chk rs fs).length ∧ rowOK 2 r (chk rs fs).length ((chk rs fs).flatMap pbC) ∧ ∃ own, Mem w' (own ++ rowO 54 r) [(w, fun _ => True)] := by
  obtain ⟨A0, c0, rfl, hlc0, hmx0, hA0⟩ := id hrs
  obtain ⟨A1, c1, rfl, hlc1, hmx1, hA1⟩ := id hfs
  refine enter (vs := [.slice A0 rs.length c0, .agg #[kd, lv, .slice A1 fs.length c1]]) Try.func18 rfl Try.ntmps18 rfl ?_
  refine w_seq ?_
  refine rg_text ?_
  refine x_box rfl rfl rfl rfl ?_
  intro p3
  refine x_val rfl rfl rfl (v_assign rfl) ?_
  refine x_end ?_
  refine t_norm ?_
  refine w_scope ?_
  refine w_seq ?_
  refine rg_text ?_
  refine x_alloc rfl rfl rfl zr35 ?_
  intro p5
  refine x_end ?_
  refine t_norm ?_
  refine w_seq ?_
  refine rg_text ?_
  refine x_makeMap rfl rfl rfl ?_
  intro p18
  refine x_val rfl rfl rfl (v_assign rfl) ?_
  refine x_end ?_
  refine t_norm ?_
  refine w_seq ?_
  refine rg_text ?_
  refine x_val rfl rfl rfl (v_func rfl) ?_
  refine x_val rfl rfl rfl (v_assign rfl) ?_
  refine x_end ?_
  refine t_norm ?_
  refine w_seq ?_
  refine rg_text ?_
  refine x_call rfl rfl rfl Try.func34 (by kernel_rfl) rfl (fun w1 hw1 => c34 w1) ?_
  intro v20 wa20 wb20 hm20 hl20 hr20
  obtain ⟨bt, rfl, hbt, hcell20⟩ := hr20
  have hnot : notOwn [(p18, Obj.map #[] 0), (p5, Obj.cells #[.slice none 0 0] 35), (p3, Obj.cells #[kd, lv, .slice A1 fs.length c1] 32)] bt := fun p hp => by
    have := hm20.lt hp
    omega
  refine x_val rfl rfl rfl (v_assign rfl) ?_
  refine x_end ?_
  refine t_norm ?_
  refine w_seq ?_
  refine w_label ?_
  refine t_norm ?_
  refine w_seq ?_
  refine w_seq ?_
  refine rg_text ?_
  refine x_val rfl rfl rfl (v_fieldAddr (off' := 2) Try.underlying32 rfl sz30 (by decide) rfl rfl) ?_
  refine x_val rfl rfl rfl (v_load Try.underlying30 rfl rfl (by first | exact at_ownL (.head _) rfl | exact at_ownL (.tail _ (.head _)) rfl | exact at_ownL (.tail _ (.tail _ (.head _))) rfl | (apply at_ownL; ((repeat (first | exact List.Mem.head _ | apply List.Mem.tail | apply List.mem_append_right))); rfl) | (refine at_ro (by first | exact .head _ | exact .tail _ (.head _) | exact .tail _ (.tail _ (.head _)) | simp) ?_ (by assumption); trivial))) ?_
  refine x_val rfl rfl rfl (v_len_slice Try.underlying30 rfl) ?_
  refine x_val rfl rfl rfl (v_move rfl) ?_
  refine x_end ?_
  refine t_norm ?_
  refine w_block ?_
  refine w_loop (σ := Nat × RowS × Array MapEntry × Nat × (Value → Option Value)) (fun x => x.1 ≤ fs.length ∧ rowOK 2 x.2.1 (chkF rs fs x.1).length ((chkF rs fs x.1).flatMap pbC) ∧ MapF Try.prog 3 x.2.2.1 x.2.2.2.2 ∧ There rs fs x.1 0 x.2.2.2.2) (fun x => [(0, .slice A0 rs.length c0), (3, .pointer (some ⟨p3, 0, none⟩)), (5, .pointer (some ⟨p5, 0, none⟩)), (6, .map (some p18)), (7, .func (.func 33) #[] #[.pointer (some ⟨p5, 0, none⟩)]), (8, .slice (some ⟨bt, 0, none⟩) 4 4), (22, .slice A1 fs.length c1), (23, Value.int .i64 fs.length), (24, Value.int .i64 (x.1 : Nat))]) (fun x => (p18, Obj.map x.2.2.1 x.2.2.2.1) :: (p5, Obj.cells [rowV x.2.1 (chkF rs fs x.1).length].toArray 35 (0, 0)) :: (rowO 54 x.2.1 ++ [(p3, Obj.cells #[kd, lv, .slice A1 fs.length c1] 32)])) (fun x => [(wb20, notOwn [(p18, Obj.map #[] 0), (p5, Obj.cells #[.slice none 0 0] 35), (p3, Obj.cells #[kd, lv, .slice A1 fs.length c1] 32)]), (w, fun _ => True)]) (fun x => fs.length - x.1) ((0, none, #[], 0, fun _ => none)) (⟨Nat.zero_le _, rowOK_nil, MapF.empty, There.init rs fs⟩) (l_start (by repeat (first | exact Sub.nil | refine Sub.cons rfl ?_)) (fun _ h => h)) ?_
  rintro ⟨k, r, es, clock, mf⟩ ⟨hk, hr, hmf, hth⟩
  dsimp only at hk hr hmf hth
  refine w_seq ?_
  refine rg_text ?_
  refine x_bool rfl rfl rfl (v_lss rfl rfl) ?_
  intro b25 hb25
  refine x_end ?_
  refine t_norm ?_
  refine w_seq ?_
  refine w_cond rfl (fun hc25 => ?_) (fun hc25 => ?_)
  · simp only [hb25, decide_eq_true_eq, decide_eq_false_iff_not, Bool.and_eq_true, Bool.or_eq_true, Bool.and_eq_false_iff, Bool.or_eq_false_iff, Bool.not_eq_true', Bool.not_eq_false', ne_eq, Decidable.not_not] at hc25
    have hkf : k < fs.length := by omega
    obtain ⟨B, c, hf, hokf, hsb⟩ := fat_of hfs hkf
    obtain ⟨b, off, len, cap, hv, hn, hlen, hcs⟩ := hf.ex
    refine w_skip ?_
    refine t_norm ?_
    refine w_seq ?_
    refine w_block ?_
    refine w_seq ?_
    refine rg_text ?_
    refine x_val rfl rfl rfl (v_move rfl) ?_
    refine x_val rfl rfl rfl (v_indexAddr Try.underlying30 sz46 (congrArg some hv) rfl (by first | omega | (dsimp only; omega)) rfl) ?_
    refine x_val rfl rfl rfl (v_loadN (vs := [Value.string fs[k].tag, Value.string fs[k].ind, Value.string fs[k].data, Value.slice B fs[k].subs.length c]) Try.underlying46 rfl sz46 rfl (fun i hi => at_ro (.tail _ (.head _)) trivial (hcs i hi))) ?_
    refine x_alloc rfl rfl rfl zr46 ?_
    intro p10
    refine x_val rfl rfl rfl (v_assign rfl) ?_
    refine x_store0 [] rfl rfl rfl rfl sz46 rfl rfl ?_
    refine x_end ?_
    refine t_norm ?_
    refine w_seq ?_
    refine w_seq ?_
    refine rg_text ?_
    refine x_val rfl rfl rfl (v_move rfl) ?_
    refine x_val rfl rfl rfl (v_len_slice Try.underlying23 rfl) ?_
    refine x_val rfl rfl rfl (v_move rfl) ?_
    refine x_end ?_
    refine t_norm ?_
    refine w_block ?_
    refine w_loop (σ := Nat × Array MapEntry × Nat × (Value → Option Value)) (fun y => y.1 ≤ rs.length ∧ MapF Try.prog 3 y.2.1 y.2.2.2 ∧ There rs fs k y.1 y.2.2.2) (fun y => [(0, .slice A0 rs.length c0), (3, .pointer (some ⟨p3, 0, none⟩)), (5, .pointer (some ⟨p5, 0, none⟩)), (6, .map (some p18)), (7, .func (.func 33) #[] #[.pointer (some ⟨p5, 0, none⟩)]), (8, .slice (some ⟨bt, 0, none⟩) 4 4), (22, .slice A1 fs.length c1), (23, Value.int .i64 fs.length), (24, Value.int .i64 (k : Nat)), (9, Value.int .i64 (k : Nat)), (10, .pointer (some ⟨p10, 0, none⟩)), (30, Value.int .i64 rs.length), (31, Value.int .i64 (y.1 : Nat))]) (fun y => (p10, Obj.cells [Value.string fs[k].tag, Value.string fs[k].ind, Value.string fs[k].data, Value.slice B fs[k].subs.length c].toArray 46) :: (p18, Obj.map y.2.1 y.2.2.1) :: (p5, Obj.cells [rowV r (chkF rs fs k).length].toArray 35 (0, 0)) :: (rowO 54 r ++ [(p3, Obj.cells #[kd, lv, .slice A1 fs.length c1] 32)])) (fun y => [(wb20, notOwn [(p18, Obj.map #[] 0), (p5, Obj.cells #[.slice none 0 0] 35), (p3, Obj.cells #[kd, lv, .slice A1 fs.length c1] 32)]), (w, fun _ => True)]) (fun y => rs.length - y.1) ((0, es, clock, mf)) (⟨Nat.zero_le _, hmf, hth⟩) (l_start (by repeat (first | exact Sub.nil | refine Sub.cons rfl ?_)) (fun _ h => h)) ?_
    rintro ⟨i, es, clock, mf⟩ ⟨hi, hmf, hth⟩
    dsimp only at hi hmf hth
    refine w_seq ?_
    refine rg_text ?_
    refine x_bool rfl rfl rfl (v_lss rfl rfl) ?_
    intro b32 hb32
    refine x_end ?_
    refine t_norm ?_
    refine w_seq ?_
    refine w_cond rfl (fun hc32 => ?_) (fun hc32 => ?_)
    · simp only [hb32, decide_eq_true_eq, decide_eq_false_iff_not, Bool.and_eq_true, Bool.or_eq_true, Bool.and_eq_false_iff, Bool.or_eq_false_iff, Bool.not_eq_true', Bool.not_eq_false', ne_eq, Decidable.not_not] at hc32
      have hil : i < rs.length := by omega
      obtain ⟨b0, o0, hv0, hD0, hb0, hcell0⟩ := hA0 (by omega)
      obtain ⟨cs0, hcs0, hrd0, hok0⟩ := hcell0 i (by omega)
      subst hrd0
      refine w_skip ?_
      refine t_norm ?_
      refine w_seq ?_
      refine w_block ?_
      refine w_seq ?_
      refine rg_text ?_
      refine x_val rfl rfl rfl (v_move rfl) ?_
      refine x_val rfl rfl rfl (v_assign rfl) ?_
      refine x_end ?_
      refine t_norm ?_
      refine rg_draw 15 [(true, 0), (true, 1), (true, 2), (true, 3), (true, 4), (true, 5), (true, 6), (true, 7), (true, 8), (true, 9), (true, 10), (true, 11), (true, 12), (true, 13), (true, 14)] (by kernel_rfl) (by kernel_rfl) ?_
      refine x_val rfl rfl rfl (v_move rfl) ?_
      refine x_val rfl rfl rfl (v_move rfl) ?_
      refine x_val rfl rfl rfl (v_move rfl) ?_
      refine x_val rfl rfl rfl (v_move rfl) ?_
      refine x_bool rfl rfl rfl (v_lookup Try.underlying70 (Maps.int_keyed Try.underlying3) zr4 rfl rfl (Maps.keyOf_int_mk Try.underlying3 (wf_i64 (by omega))) (.tail _ (.head _)) hmf (hth.at hil)) ?_
      intro b38 hb38
      refine x_val rfl rfl rfl (v_move rfl) ?_
      refine x_if [] rfl rfl rfl rfl rfl (fun hg => by obtain ⟨hg0, _⟩ := hg; subst hg0; (try simp only [List.cons_append, List.nil_append, gvl_nil, gvl_t, gvl_f]); exact v_move rfl) ?_
      refine x_if [] rfl rfl rfl rfl rfl (fun hg => by obtain ⟨hg0, _⟩ := hg; subst hg0; (try simp only [List.cons_append, List.nil_append, gvl_nil, gvl_t, gvl_f]); exact v_move rfl) ?_
      refine x_if [] rfl rfl rfl rfl rfl (fun hg => by obtain ⟨hg0, _⟩ := hg; subst hg0; (try simp only [List.cons_append, List.nil_append, gvl_nil, gvl_t, gvl_f]); exact v_indexAddr Try.underlying23 sz27 (congrArg (fun A => some (Value.slice A rs.length c0)) hv0) rfl (by first | omega | (dsimp only; omega)) rfl) ?_
      refine x_if [] rfl rfl rfl rfl rfl (fun hg => by obtain ⟨hg0, _⟩ := hg; subst hg0; (try simp only [List.cons_append, List.nil_append, gvl_nil, gvl_t, gvl_f]); exact v_fieldAddr Try.underlying27 rfl sz9 (by decide) rfl rfl) ?_
      refine x_if [] rfl rfl rfl rfl rfl (fun hg => by obtain ⟨hg0, _⟩ := hg; subst hg0; (try simp only [List.cons_append, List.nil_append, gvl_nil, gvl_t, gvl_f]); exact v_load Try.underlying9 rfl rfl (at_ro (.tail _ (.head _)) trivial (hcs0 0 (by show 0 < 7; omega)))) ?_
      refine x_if [] rfl rfl rfl rfl rfl (fun hg => by obtain ⟨hg0, _⟩ := hg; subst hg0; (try simp only [List.cons_append, List.nil_append, gvl_nil, gvl_t, gvl_f]); exact v_fieldAddr (off' := 0) Try.underlying46 rfl sz9 (by decide) rfl rfl) ?_
      refine x_if [] rfl rfl rfl rfl rfl (fun hg => by obtain ⟨hg0, _⟩ := hg; subst hg0; (try simp only [List.cons_append, List.nil_append, gvl_nil, gvl_t, gvl_f]); exact v_load Try.underlying9 rfl rfl (by first | exact at_ownL (.head _) rfl | exact at_ownL (.tail _ (.head _)) rfl | exact at_ownL (.tail _ (.tail _ (.head _))) rfl | (apply at_ownL; ((repeat (first | exact List.Mem.head _ | apply List.Mem.tail | apply List.mem_append_right))); rfl) | (refine at_ro (by first | exact .head _ | exact .tail _ (.head _) | exact .tail _ (.tail _ (.head _)) | simp) ?_ (by assumption); trivial))) ?_
      refine x_call_ifb [] rfl rfl rfl rfl rfl Try.func35 (by kernel_rfl) (fun hg => by obtain ⟨hg0, _⟩ := hg; subst hg0; (try simp only [List.cons_append, List.nil_append, gvl_nil, gvl_t, gvl_f]); refine ⟨_, rfl, ?_⟩; exact fun w1 hw1 => c35 _ _ w1 hok0.1 hokf.1) ?_
      intro b47 hb47
      refine x_bool rfl rfl rfl (v_or rfl rfl) ?_
      intro b48 hb48
      refine x_mapUpdate [(p10, _)] rfl rfl rfl rfl Try.underlying70 (Maps.int_keyed Try.underlying3) (Maps.keyOf_int_mk Try.underlying3 (wf_i64 (by omega))) rfl hmf ?_
      intro es34 clock34 hmf34
      refine x_end ?_
      refine b_norm ?_
      refine t_norm ?_
      refine rg_text ?_
      refine x_val rfl rfl rfl (v_addi rfl rfl rfl (by first | omega | (dsimp only; omega))) ?_
      refine x_val rfl rfl rfl (v_move rfl) ?_
      refine x_end ?_
      exact l_norm (i + 1, es34, clock34, fupd mf (Value.int .i64 (i : Nat)) (.bool b48)) ⟨by omega, hmf34, hth.step hkf hil (by rw [hb48, hb47, hb38])⟩ (by simp only; omega) (by repeat (first | exact Sub.nil | refine Sub.cons rfl ?_)) (fun _ h => h)
    · simp only [hb32, decide_eq_true_eq, decide_eq_false_iff_not, Bool.and_eq_true, Bool.or_eq_true, Bool.and_eq_false_iff, Bool.or_eq_false_iff, Bool.not_eq_true', Bool.not_eq_false', ne_eq, Decidable.not_not] at hc32
      have hil : rs.length ≤ i := by omega
      replace hth := hth.next hil
      refine w_exit ?_
      refine t_exit ?_
      refine t_exit ?_
      refine b_hit ?_
      refine t_norm ?_
      refine w_seq ?_
      refine rg_text ?_
      refine x_val rfl rfl rfl (v_move rfl) ?_
      refine x_val rfl rfl rfl (v_fieldAddr (off' := 0) Try.underlying46 rfl sz9 (by decide) rfl rfl) ?_
      refine x_val rfl rfl rfl (v_load Try.underlying9 rfl rfl (by first | exact at_ownL (.head _) rfl | exact at_ownL (.tail _ (.head _)) rfl | exact at_ownL (.tail _ (.tail _ (.head _))) rfl | (apply at_ownL; ((repeat (first | exact List.Mem.head _ | apply List.Mem.tail | apply List.mem_append_right))); rfl) | (refine at_ro (by first | exact .head _ | exact .tail _ (.head _) | exact .tail _ (.tail _ (.head _)) | simp) ?_ (by assumption); trivial))) ?_
      refine x_callv rfl rfl rfl Try.func36 (by kernel_rfl) rfl (fun w1 hw1 => c36 fs[k].tag w1 (hrs.keep (Kept.later (hw1.base (by simp)))) hokf.1) ?_
      refine x_val rfl rfl rfl (v_assign rfl) ?_
      refine x_end ?_
      refine t_norm ?_
      refine w_seq ?_
      refine w_block ?_
      refine w_seq ?_
      refine rg_text ?_
      refine x_val rfl rfl rfl (v_load_blk Try.underlying46 rfl rfl (by first | exact .head _ | exact .tail _ (.head _) | exact .tail _ (.tail _ (.head _)) | (repeat (first | exact List.Mem.head _ | apply List.Mem.tail | apply List.mem_append_right))) (by exact sz46)) ?_
      refine x_callb rfl rfl rfl Try.func37 (by kernel_rfl) rfl (fun w1 hw1 => c37 fs[k] B c w1) ?_
      intro b56 hb56
      refine x_bool rfl rfl rfl (v_not rfl) ?_
      intro b57 hb57
      refine x_val rfl rfl rfl (v_assign rfl) ?_
      refine x_end ?_
      refine t_norm ?_
      refine w_cond rfl (fun hc54 => ?_) (fun hc54 => ?_)
      · simp only [hb57, hb56, decide_eq_true_eq, decide_eq_false_iff_not, Bool.and_eq_true, Bool.or_eq_true, Bool.and_eq_false_iff, Bool.or_eq_false_iff, Bool.not_eq_true', Bool.not_eq_false', ne_eq, Decidable.not_not] at hc54
        refine w_seq ?_
        refine rg_text ?_
        refine x_val rfl rfl rfl (v_move rfl) ?_
        refine x_val rfl rfl rfl (v_move rfl) ?_
        refine x_turn (τ := RowS) (fun r' => rowOK 2 r' ((chkF rs fs k).length + 1) ((chkF rs fs k).flatMap pbC ++ [Value.int .i64 ((k : Nat)), Value.int .i64 (14)])) (fun r' => [(p10, Obj.cells [Value.string fs[k].tag, Value.string fs[k].ind, Value.string fs[k].data, Value.slice B fs[k].subs.length c].toArray 46), (p18, Obj.map es clock)] ++ (p5, Obj.cells [rowV r' ((chkF rs fs k).length + 1)].toArray 35 (0, 0)) :: (rowO 54 r' ++ [(p3, Obj.cells #[kd, lv, .slice A1 fs.length c1] 32)])) rfl rfl rfl Try.func33 (by kernel_rfl) rfl (fun w1 hw1 => c33 (p5 := p5) (r := r) (len := (chkF rs fs k).length) (xs := (chkF rs fs k).flatMap pbC) (i := (k : Nat)) (k := 14) (l1 := [(p10, Obj.cells [Value.string fs[k].tag, Value.string fs[k].ind, Value.string fs[k].data, Value.slice B fs[k].subs.length c].toArray 46), (p18, Obj.map es clock)]) (l2 := [(p3, Obj.cells #[kd, lv, .slice A1 fs.length c1] 32)]) w1 hw1 hr (by have := chkF_len rs fs k; omega)) ?_
        intro r' hr'
        refine x_end ?_
        refine t_norm ?_
        refine w_exit ?_
        refine b_miss rfl ?_
        refine t_exit ?_
        refine b_hit ?_
        refine t_norm ?_
        refine rg_text ?_
        refine x_val rfl rfl rfl (v_addi rfl rfl rfl (by first | omega | (dsimp only; omega))) ?_
        refine x_val rfl rfl rfl (v_move rfl) ?_
        refine x_end ?_
        have hck : chkF rs fs (k + 1) = chkF rs fs k ++ [⟨k, 14⟩] := by rw [chkF_succ hkf, fpb_bad hc54]
        exact l_norm (k + 1, r', es, clock, mf) ⟨by omega, by dsimp only; rw [hck]; exact row_snoc hr', hmf, hth⟩ (by simp only; omega) (by repeat (first | exact Sub.nil | refine Sub.cons rfl ?_)) (fun w1 h => by dsimp only; rw [hck]; exact h.less (by simp) (fun _ h => h))
      · simp only [hb57, hb56, decide_eq_true_eq, decide_eq_false_iff_not, Bool.and_eq_true, Bool.or_eq_true, Bool.and_eq_false_iff, Bool.or_eq_false_iff, Bool.not_eq_true', Bool.not_eq_false', ne_eq, Decidable.not_not] at hc54
        refine w_seq ?_
        refine rg_text ?_
        refine x_val rfl rfl rfl (v_move rfl) ?_
        refine x_bool rfl rfl rfl (v_lss rfl rfl) ?_
        intro b63 hb63
        refine x_val rfl rfl rfl (v_assign rfl) ?_
        refine x_end ?_
        refine t_norm ?_
        refine w_cond rfl (fun hc61 => ?_) (fun hc61 => ?_)
        · simp only [hb63, decide_eq_true_eq, decide_eq_false_iff_not, Bool.and_eq_true, Bool.or_eq_true, Bool.and_eq_false_iff, Bool.or_eq_false_iff, Bool.not_eq_true', Bool.not_eq_false', ne_eq, Decidable.not_not] at hc61
          refine w_seq ?_
          refine rg_text ?_
          refine x_val rfl rfl rfl (v_move rfl) ?_
          refine x_val rfl rfl rfl (v_move rfl) ?_
          refine x_turn (τ := RowS) (fun r' => rowOK 2 r' ((chkF rs fs k).length + 1) ((chkF rs fs k).flatMap pbC ++ [Value.int .i64 ((k : Nat)), Value.int .i64 (20)])) (fun r' => [(p10, Obj.cells [Value.string fs[k].tag, Value.string fs[k].ind, Value.string fs[k].data, Value.slice B fs[k].subs.length c].toArray 46), (p18, Obj.map es clock)] ++ (p5, Obj.cells [rowV r' ((chkF rs fs k).length + 1)].toArray 35 (0, 0)) :: (rowO 54 r' ++ [(p3, Obj.cells #[kd, lv, .slice A1 fs.length c1] 32)])) rfl rfl rfl Try.func33 (by kernel_rfl) rfl (fun w1 hw1 => c33 (p5 := p5) (r := r) (len := (chkF rs fs k).length) (xs := (chkF rs fs k).flatMap pbC) (i := (k : Nat)) (k := 20) (l1 := [(p10, Obj.cells [Value.string fs[k].tag, Value.string fs[k].ind, Value.string fs[k].data, Value.slice B fs[k].subs.length c].toArray 46), (p18, Obj.map es clock)]) (l2 := [(p3, Obj.cells #[kd, lv, .slice A1 fs.length c1] 32)]) w1 hw1 hr (by have := chkF_len rs fs k; omega)) ?_
          intro r' hr'
          refine x_end ?_
          refine t_norm ?_
          refine w_exit ?_
          refine b_miss rfl ?_
          refine t_exit ?_
          refine b_hit ?_
          refine t_norm ?_
          refine rg_text ?_
          refine x_val rfl rfl rfl (v_addi rfl rfl rfl (by first | omega | (dsimp only; omega))) ?_
          refine x_val rfl rfl rfl (v_move rfl) ?_
          refine x_end ?_
          have hck : chkF rs fs (k + 1) = chkF rs fs k ++ [⟨k, 20⟩] := by rw [chkF_succ hkf, fpb_tag hc54 hc61]
          exact l_norm (k + 1, r', es, clock, mf) ⟨by omega, by dsimp only; rw [hck]; exact row_snoc hr', hmf, hth⟩ (by simp only; omega) (by repeat (first | exact Sub.nil | refine Sub.cons rfl ?_)) (fun w1 h => by dsimp only; rw [hck]; exact h.less (by simp) (fun _ h => h))
        · simp only [hb63, decide_eq_true_eq, decide_eq_false_iff_not, Bool.and_eq_true, Bool.or_eq_true, Bool.and_eq_false_iff, Bool.or_eq_false_iff, Bool.not_eq_true', Bool.not_eq_false', ne_eq, Decidable.not_not] at hc61
          obtain ⟨q, hq, hqe, hqf⟩ := fidx_some (p := fun r => mtc r.tag fs[k].tag) (xs := rs) (by omega)
          rw [hqe]
          obtain ⟨b0, o0, hv0, hD0, hb0, hcell0⟩ := hA0 (by omega)
          obtain ⟨cs0, hcs0, hrd0, hok0⟩ := hcell0 q (by omega)
          subst hrd0
          refine w_skip ?_
          refine b_norm ?_
          refine t_norm ?_
          refine w_seq ?_
          refine rg_draw 9 [(true, 0), (true, 1), (true, 2), (true, 3), (true, 4), (true, 5), (true, 6), (true, 7), (false, 8)] (by kernel_rfl) (by kernel_rfl) ?_
          refine x_val rfl rfl rfl (v_fieldAddr (off' := 2) Try.underlying32 rfl sz30 (by decide) rfl rfl) ?_
          refine x_val rfl rfl rfl (v_load Try.underlying30 rfl rfl (at_ownL (e := 32) (fz := (0, 0)) (vs := [kd, lv, .slice A1 fs.length c1]) (by simp) rfl)) ?_
          refine x_val rfl rfl rfl (v_move rfl) ?_
          refine x_val rfl rfl rfl (v_move rfl) ?_
          refine x_val rfl rfl rfl (v_move rfl) ?_
          refine x_val rfl rfl rfl (v_indexAddr Try.underlying23 sz27 (congrArg (fun A => some (Value.slice A rs.length c0)) hv0) rfl (by first | omega | (dsimp only; omega)) rfl) ?_
          refine x_val rfl rfl rfl (v_loadN (vs := rs[q].cells) Try.underlying27 rfl sz27 rfl (fun i hi => at_ro (.tail _ (.head _)) trivial (hcs0 i hi))) ?_
          refine x_val rfl rfl rfl (v_buildL (places := [(0, 1), (1, 1), (2, 7)]) Try.underlying77 zr77 (by kernel_rfl) rfl rfl) ?_
          refine x_alloc rfl rfl rfl zr77 ?_
          intro p13
          refine x_store0 [] rfl rfl rfl rfl sz77 rfl rfl ?_
          refine x_end ?_
          refine t_norm ?_
          refine w_seq ?_
          refine rg_text ?_
          refine x_val rfl rfl rfl (v_move rfl) ?_
          refine x_val rfl rfl rfl (v_len_slice Try.underlying72 rfl) ?_
          refine x_val rfl rfl rfl (v_move rfl) ?_
          refine x_end ?_
          refine t_norm ?_
          refine w_block ?_
          refine w_loop (σ := Nat) (fun j => j ≤ 4 ∧ ∀ i, i < j → tst rs[q] fs fs[k] k i = false) (fun j => [(0, .slice A0 rs.length c0), (3, .pointer (some ⟨p3, 0, none⟩)), (5, .pointer (some ⟨p5, 0, none⟩)), (6, .map (some p18)), (7, .func (.func 33) #[] #[.pointer (some ⟨p5, 0, none⟩)]), (8, .slice (some ⟨bt, 0, none⟩) 4 4), (22, .slice A1 fs.length c1), (23, Value.int .i64 fs.length), (24, Value.int .i64 (k : Nat)), (9, Value.int .i64 (k : Nat)), (10, .pointer (some ⟨p10, 0, none⟩)), (13, .pointer (some ⟨p13, 0, none⟩)), (75, .slice (some ⟨bt, 0, none⟩) 4 4), (76, Value.int .i64 (4 : Nat)), (77, Value.int .i64 (j : Nat))]) (fun j => (p13, Obj.cells (plC (.slice A1 fs.length c1) k rs[q]).toArray 77) :: (p10, Obj.cells [Value.string fs[k].tag, Value.string fs[k].ind, Value.string fs[k].data, Value.slice B fs[k].subs.length c].toArray 46) :: (p18, Obj.map es clock) :: (p5, Obj.cells [rowV r (chkF rs fs k).length].toArray 35 (0, 0)) :: (rowO 54 r ++ [(p3, Obj.cells #[kd, lv, .slice A1 fs.length c1] 32)])) (fun j => [(wb20, notOwn [(p18, Obj.map #[] 0), (p5, Obj.cells #[.slice none 0 0] 35), (p3, Obj.cells #[kd, lv, .slice A1 fs.length c1] 32)]), (w, fun _ => True)]) (fun j => 4 - j) (0) (⟨Nat.zero_le _, by intros; omega⟩) (l_start (by repeat (first | exact Sub.nil | refine Sub.cons rfl ?_)) (fun _ h => h)) ?_
          rintro j ⟨hj, hno⟩
          refine w_seq ?_
          refine rg_text ?_
          refine x_bool rfl rfl rfl (v_lss rfl rfl) ?_
          intro b78 hb78
          refine x_end ?_
          refine t_norm ?_
          refine w_seq ?_
          refine w_cond rfl (fun hc78 => ?_) (fun hc78 => ?_)
          · simp only [hb78, decide_eq_true_eq, decide_eq_false_iff_not, Bool.and_eq_true, Bool.or_eq_true, Bool.and_eq_false_iff, Bool.or_eq_false_iff, Bool.not_eq_true', Bool.not_eq_false', ne_eq, Decidable.not_not] at hc78
            have hjt : j < 4 := by omega
            obtain ⟨g, hgf, hgb⟩ := tfun j hjt
            refine w_skip ?_
            refine t_norm ?_
            refine w_seq ?_
            refine w_block ?_
            refine w_seq ?_
            refine rg_text ?_
            refine x_val rfl rfl rfl (v_indexAddr Try.underlying72 sz80 rfl rfl (by first | omega | (dsimp only; omega)) rfl) ?_
            refine x_val rfl rfl rfl (v_loadN (vs := [Value.int .i64 (tk j), .bool (td j), .func (.func (tf j)) #[] #[]]) Try.underlying80 rfl sz80 rfl (fun i hi => at_ro (.head _) hnot ((cell_of_row _ _ _ testC 80 (0, 0) hcell20).trans (by rw [testC, List.getElem?_toArray, testL_at j hjt i hi]; exact List.getElem?_eq_getElem hi)))) ?_
            refine x_alloc rfl rfl rfl zr80 ?_
            intro p15
            refine x_store0 [] rfl rfl rfl rfl sz80 rfl rfl ?_
            refine x_end ?_
            refine t_norm ?_
            refine w_seq ?_
            refine rg_text ?_
            refine x_val rfl rfl rfl (v_fieldAddr (off' := 1) Try.underlying80 rfl sz4 (by decide) rfl rfl) ?_
            refine x_bool rfl rfl rfl (v_load Try.underlying4 rfl rfl (by first | exact at_ownL (.head _) rfl | exact at_ownL (.tail _ (.head _)) rfl | exact at_ownL (.tail _ (.tail _ (.head _))) rfl | (apply at_ownL; ((repeat (first | exact List.Mem.head _ | apply List.Mem.tail | apply List.mem_append_right))); rfl) | (refine at_ro (by first | exact .head _ | exact .tail _ (.head _) | exact .tail _ (.tail _ (.head _)) | simp) ?_ (by assumption); trivial))) ?_
            intro b82 hb82
            refine x_bool rfl rfl rfl (v_not rfl) ?_
            intro b83 hb83
            refine x_val rfl rfl rfl (v_move rfl) ?_
            refine x_if [] rfl rfl rfl rfl rfl (fun hg => by obtain ⟨hg0, _⟩ := hg; subst hg0; (try simp only [List.cons_append, List.nil_append, gvl_nil, gvl_t, gvl_f]); exact v_load_blk Try.underlying46 rfl rfl (by first | exact .head _ | exact .tail _ (.head _) | exact .tail _ (.tail _ (.head _)) | (repeat (first | exact List.Mem.head _ | apply List.Mem.tail | apply List.mem_append_right))) (by exact sz46)) ?_
            refine x_call_ifb [] rfl rfl rfl rfl rfl Try.func38 (by kernel_rfl) (fun hg => by obtain ⟨hg0, _⟩ := hg; subst hg0; (try simp only [List.cons_append, List.nil_append, gvl_nil, gvl_t, gvl_f]); refine ⟨_, rfl, ?_⟩; exact fun w1 hw1 => c38 fs[k] B fs[k].subs.length c w1) ?_
            intro b86 hb86
            refine x_ifb [] rfl rfl rfl rfl rfl (fun hg => by obtain ⟨hg0, _⟩ := hg; subst hg0; (try simp only [List.cons_append, List.nil_append, gvl_nil, gvl_t, gvl_f]); exact v_not rfl) ?_
            intro b87 hb87
            refine x_bool rfl rfl rfl (v_or rfl rfl) ?_
            intro b88 hb88
            refine x_val rfl rfl rfl (v_move rfl) ?_
            refine x_if [] rfl rfl rfl rfl rfl (fun hg => by obtain ⟨hg0, _⟩ := hg; subst hg0; (try simp only [List.cons_append, List.nil_append, gvl_nil, gvl_t, gvl_f]); exact v_fieldAddr (off' := 2) Try.underlying80 rfl sz78 (by decide) rfl rfl) ?_
            refine x_if [] rfl rfl rfl rfl rfl (fun hg => by obtain ⟨hg0, _⟩ := hg; subst hg0; (try simp only [List.cons_append, List.nil_append, gvl_nil, gvl_t, gvl_f]); exact v_load Try.underlying78 rfl rfl (by first | exact at_ownL (.head _) rfl | exact at_ownL (.tail _ (.head _)) rfl | exact at_ownL (.tail _ (.tail _ (.head _))) rfl | (apply at_ownL; ((repeat (first | exact List.Mem.head _ | apply List.Mem.tail | apply List.mem_append_right))); rfl) | (refine at_ro (by first | exact .head _ | exact .tail _ (.head _) | exact .tail _ (.tail _ (.head _)) | simp) ?_ (by assumption); trivial))) ?_
            refine x_if [] rfl rfl rfl rfl rfl (fun hg => by obtain ⟨hg0, _⟩ := hg; subst hg0; (try simp only [List.cons_append, List.nil_append, gvl_nil, gvl_t, gvl_f]); exact v_load_blk Try.underlying77 rfl rfl (by first | exact .head _ | exact .tail _ (.head _) | exact .tail _ (.tail _ (.head _)) | (repeat (first | exact List.Mem.head _ | apply List.Mem.tail | apply List.mem_append_right))) (by exact sz77)) ?_
            refine x_cl_ifb (b' := tfail rs[q] fs fs[k] k j) [] rfl rfl rfl rfl rfl hgf hgb (fun hg => by obtain ⟨hg0, _⟩ := hg; subst hg0; (try simp only [List.cons_append, List.nil_append, gvl_nil, gvl_t, gvl_f]); exact ⟨_, _, rfl, rfl, fun w1 hw1 => ctest j hjt rs[q] k hkf w1 (hfs.keep (Kept.later (hw1.base (by simp)))) (by simp_all) hc54⟩) ?_
            intro b93 hb93
            refine x_bool rfl rfl rfl (v_and rfl rfl) ?_
            intro b94 hb94
            refine x_end ?_
            refine t_norm ?_
            refine w_cond rfl (fun hc94 => ?_) (fun hc94 => ?_)
            · have ht : tst rs[q] fs fs[k] k j = b94 := by rw [hb94, hb93, hb88, hb87, hb86, hb83, hb82]; rfl
              rw [hc94] at ht
              refine w_seq ?_
              refine rg_text ?_
              refine x_val rfl rfl rfl (v_move rfl) ?_
              refine x_val rfl rfl rfl (v_move rfl) ?_
              refine x_val rfl rfl rfl (v_fieldAddr (off' := 0) Try.underlying80 rfl sz52 (by decide) rfl rfl) ?_
              refine x_val rfl rfl rfl (v_load Try.underlying52 rfl rfl (by first | exact at_ownL (.head _) rfl | exact at_ownL (.tail _ (.head _)) rfl | exact at_ownL (.tail _ (.tail _ (.head _))) rfl | (apply at_ownL; ((repeat (first | exact List.Mem.head _ | apply List.Mem.tail | apply List.mem_append_right))); rfl) | (refine at_ro (by first | exact .head _ | exact .tail _ (.head _) | exact .tail _ (.tail _ (.head _)) | simp) ?_ (by assumption); trivial))) ?_
              refine x_turn (τ := RowS) (fun r' => rowOK 2 r' ((chkF rs fs k).length + 1) ((chkF rs fs k).flatMap pbC ++ [Value.int .i64 ((k : Nat)), Value.int .i64 (tk j)])) (fun r' => [(p15, Obj.cells [Value.int .i64 (tk j), .bool (td j), .func (.func (tf j)) #[] #[]].toArray 80), (p13, Obj.cells (plC (.slice A1 fs.length c1) k rs[q]).toArray 77), (p10, Obj.cells [Value.string fs[k].tag, Value.string fs[k].ind, Value.string fs[k].data, Value.slice B fs[k].subs.length c].toArray 46), (p18, Obj.map es clock)] ++ (p5, Obj.cells [rowV r' ((chkF rs fs k).length + 1)].toArray 35 (0, 0)) :: (rowO 54 r' ++ [(p3, Obj.cells #[kd, lv, .slice A1 fs.length c1] 32)])) rfl rfl rfl Try.func33 (by kernel_rfl) rfl (fun w1 hw1 => c33 (p5 := p5) (r := r) (len := (chkF rs fs k).length) (xs := (chkF rs fs k).flatMap pbC) (i := (k : Nat)) (k := tk j) (l1 := [(p15, Obj.cells [Value.int .i64 (tk j), .bool (td j), .func (.func (tf j)) #[] #[]].toArray 80), (p13, Obj.cells (plC (.slice A1 fs.length c1) k rs[q]).toArray 77), (p10, Obj.cells [Value.string fs[k].tag, Value.string fs[k].ind, Value.string fs[k].data, Value.slice B fs[k].subs.length c].toArray 46), (p18, Obj.map es clock)]) (l2 := [(p3, Obj.cells #[kd, lv, .slice A1 fs.length c1] 32)]) w1 hw1 hr (by have := chkF_len rs fs k; omega)) ?_
              intro r' hr'
              refine x_end ?_
              refine t_norm ?_
              refine w_exit ?_
              refine b_miss rfl ?_
              refine t_exit ?_
              refine t_exit ?_
              refine b_miss rfl ?_
              refine b_hit ?_
              refine t_norm ?_
              refine rg_text ?_
              refine x_val rfl rfl rfl (v_addi rfl rfl rfl (by first | omega | (dsimp only; omega))) ?_
              refine x_val rfl rfl rfl (v_move rfl) ?_
              refine x_end ?_
              have hck : chkF rs fs (k + 1) = chkF rs fs k ++ [⟨k, tk j⟩] := by rw [chkF_succ hkf, fpb_at hc54 hq hqf, tpb_at hjt ht hno]
              exact l_norm (k + 1, r', es, clock, mf) ⟨by omega, by dsimp only; rw [hck]; exact row_snoc hr', hmf, hth⟩ (by simp only; omega) (by repeat (first | exact Sub.nil | refine Sub.cons rfl ?_)) (fun w1 h => by dsimp only; rw [hck]; exact h.less (by rw [List.length_append]; exact (((List.Sublist.refl _).cons _).cons _).cons _) (fun _ h => h))
            · have ht : tst rs[q] fs fs[k] k j = b94 := by rw [hb94, hb93, hb88, hb87, hb86, hb83, hb82]; rfl
              rw [hc94] at ht
              refine w_skip ?_
              refine b_norm ?_
              refine t_norm ?_
              refine rg_text ?_
              refine x_val rfl rfl rfl (v_addi rfl rfl rfl (by first | omega | (dsimp only; omega))) ?_
              refine x_val rfl rfl rfl (v_move rfl) ?_
              refine x_end ?_
              exact l_norm (j + 1) ⟨by omega, snoc_all hno ht⟩ (by omega) (by repeat (first | exact Sub.nil | refine Sub.cons rfl ?_)) (fun w1 h => h.less (List.sublist_cons_self _ _) (fun _ h => h))
          · simp only [hb78, decide_eq_true_eq, decide_eq_false_iff_not, Bool.and_eq_true, Bool.or_eq_true, Bool.and_eq_false_iff, Bool.or_eq_false_iff, Bool.not_eq_true', Bool.not_eq_false', ne_eq, Decidable.not_not] at hc78
            have hj4 : j = 4 := by omega
            subst hj4
            refine w_exit ?_
            refine t_exit ?_
            refine t_exit ?_
            refine b_hit ?_
            refine b_norm ?_
            refine t_norm ?_
            refine rg_text ?_
            refine x_val rfl rfl rfl (v_addi rfl rfl rfl (by first | omega | (dsimp only; omega))) ?_
            refine x_val rfl rfl rfl (v_move rfl) ?_
            refine x_end ?_
            have hck : chkF rs fs (k + 1) = chkF rs fs k := by rw [chkF_succ hkf, fpb_at hc54 hq hqf, tpb_none hno, List.append_nil]
            exact l_norm (k + 1, r, es, clock, mf) ⟨by omega, by dsimp only; rw [hck]; exact hr, hmf, hth⟩ (by simp only; omega) (by repeat (first | exact Sub.nil | refine Sub.cons rfl ?_)) (fun w1 h => by dsimp only; rw [hck]; exact h.less (((List.Sublist.refl _).cons _).cons _) (fun _ h => h))
  · simp only [hb25, decide_eq_true_eq, decide_eq_false_iff_not, Bool.and_eq_true, Bool.or_eq_true, Bool.and_eq_false_iff, Bool.or_eq_false_iff, Bool.not_eq_true', Bool.not_eq_false', ne_eq, Decidable.not_not] at hc25
    have hkn : k = fs.length := by omega
    subst hkn
    refine w_exit ?_
    refine t_exit ?_
    refine t_exit ?_
    refine b_hit ?_
    refine t_norm ?_
    refine w_seq ?_
    refine w_seq ?_
    refine rg_text ?_
    refine x_val rfl rfl rfl (v_move rfl) ?_
    refine x_val rfl rfl rfl (v_len_slice Try.underlying23 rfl) ?_
    refine x_val rfl rfl rfl (v_move rfl) ?_
    refine x_end ?_
    refine t_norm ?_
    refine w_block ?_
    refine w_loop (σ := Nat × RowS) (fun x => x.1 ≤ rs.length ∧ rowOK 2 x.2 (chkM rs fs x.1).length ((chkM rs fs x.1).flatMap pbC)) (fun x => [(5, .pointer (some ⟨p5, 0, none⟩)), (6, .map (some p18)), (7, .func (.func 33) #[] #[.pointer (some ⟨p5, 0, none⟩)]), (102, .slice A0 rs.length c0), (103, Value.int .i64 rs.length), (104, Value.int .i64 (x.1 : Nat))]) (fun x => (p18, Obj.map es clock) :: (p5, Obj.cells [rowV x.2 (chkM rs fs x.1).length].toArray 35 (0, 0)) :: (rowO 54 x.2 ++ [(p3, Obj.cells #[kd, lv, .slice A1 fs.length c1] 32)])) (fun x => [(wb20, notOwn [(p18, Obj.map #[] 0), (p5, Obj.cells #[.slice none 0 0] 35), (p3, Obj.cells #[kd, lv, .slice A1 fs.length c1] 32)]), (w, fun _ => True)]) (fun x => rs.length - x.1) ((0, r)) (⟨Nat.zero_le _, hr⟩) (l_start (by repeat (first | exact Sub.nil | refine Sub.cons rfl ?_)) (fun _ h => h)) ?_
    rintro ⟨i, r⟩ ⟨hk, hr⟩
    dsimp only at hk hr
    refine w_seq ?_
    refine rg_text ?_
    refine x_bool rfl rfl rfl (v_lss rfl rfl) ?_
    intro b105 hb105
    refine x_end ?_
    refine t_norm ?_
    refine w_seq ?_
    refine w_cond rfl (fun hc105 => ?_) (fun hc105 => ?_)
    · simp only [hb105, decide_eq_true_eq, decide_eq_false_iff_not, Bool.and_eq_true, Bool.or_eq_true, Bool.and_eq_false_iff, Bool.or_eq_false_iff, Bool.not_eq_true', Bool.not_eq_false', ne_eq, Decidable.not_not] at hc105
      have hil : i < rs.length := by omega
      obtain ⟨b0, o0, hv0, hD0, hb0, hcell0⟩ := hA0 (by omega)
      obtain ⟨cs0, hcs0, hrd0, hok0⟩ := hcell0 i (by omega)
      subst hrd0
      refine w_skip ?_
      refine t_norm ?_
      refine w_seq ?_
      refine w_block ?_
      refine w_seq ?_
      refine rg_text ?_
      refine x_val rfl rfl rfl (v_move rfl) ?_
      refine x_val rfl rfl rfl (v_indexAddr Try.underlying23 sz27 (congrArg (fun A => some (Value.slice A rs.length c0)) hv0) rfl (by first | omega | (dsimp only; omega)) rfl) ?_
      refine x_val rfl rfl rfl (v_loadN (vs := rs[i].cells) Try.underlying27 rfl sz27 rfl (fun i hi => at_ro (.tail _ (.head _)) trivial (hcs0 i hi))) ?_
      refine x_alloc rfl rfl rfl zr27 ?_
      intro p17
      refine x_val rfl rfl rfl (v_assign rfl) ?_
      refine x_store0 [] rfl rfl rfl rfl sz27 rfl rfl ?_
      refine x_end ?_
      refine t_norm ?_
      refine w_seq ?_
      refine rg_text ?_
      refine x_val rfl rfl rfl (v_fieldAddr (off' := 1) Try.underlying27 rfl sz4 (by decide) rfl rfl) ?_
      refine x_bool rfl rfl rfl (v_load Try.underlying4 rfl rfl (by first | exact at_ownL (.head _) rfl | exact at_ownL (.tail _ (.head _)) rfl | exact at_ownL (.tail _ (.tail _ (.head _))) rfl | (apply at_ownL; ((repeat (first | exact List.Mem.head _ | apply List.Mem.tail | apply List.mem_append_right))); rfl) | (refine at_ro (by first | exact .head _ | exact .tail _ (.head _) | exact .tail _ (.tail _ (.head _)) | simp) ?_ (by assumption); trivial))) ?_
      intro b110 hb110
      refine x_val rfl rfl rfl (v_move rfl) ?_
      refine x_if [] rfl rfl rfl rfl rfl (fun hg => by obtain ⟨hg0, _⟩ := hg; subst hg0; (try simp only [List.cons_append, List.nil_append, gvl_nil, gvl_t, gvl_f]); exact v_move rfl) ?_
      refine x_if [] rfl rfl rfl rfl rfl (fun hg => by obtain ⟨hg0, _⟩ := hg; subst hg0; (try simp only [List.cons_append, List.nil_append, gvl_nil, gvl_t, gvl_f]); exact v_move rfl) ?_
      refine x_ifb [] rfl rfl rfl rfl rfl (fun hg => by obtain ⟨hg0, _⟩ := hg; subst hg0; (try simp only [List.cons_append, List.nil_append, gvl_nil, gvl_t, gvl_f]); exact v_lookup Try.underlying70 (Maps.int_keyed Try.underlying3) zr4 rfl rfl (Maps.keyOf_int_mk Try.underlying3 (wf_i64 (by omega))) (.tail _ (.head _)) hmf (hth.last hil)) ?_
      intro b114 hb114
      refine x_ifb [] rfl rfl rfl rfl rfl (fun hg => by obtain ⟨hg0, _⟩ := hg; subst hg0; (try simp only [List.cons_append, List.nil_append, gvl_nil, gvl_t, gvl_f]); exact v_not rfl) ?_
      intro b115 hb115
      refine x_bool rfl rfl rfl (v_and rfl rfl) ?_
      intro b116 hb116
      refine x_end ?_
      refine t_norm ?_
      refine w_cond rfl (fun hc116 => ?_) (fun hc116 => ?_)
      · have hcc : (rs[i].must && !fs.any (fun f => mtc rs[i].tag f.tag)) = b116 := by rw [hb116, hb115, hb114, hb110]
        rw [hc116] at hcc
        refine rg_text ?_
        refine x_val rfl rfl rfl (v_move rfl) ?_
        refine x_turn (τ := RowS) (fun r' => rowOK 2 r' ((chkM rs fs i).length + 1) ((chkM rs fs i).flatMap pbC ++ [Value.int .i64 (-1), Value.int .i64 (21)])) (fun r' => [(p17, Obj.cells rs[i].cells.toArray 27), (p18, Obj.map es clock)] ++ (p5, Obj.cells [rowV r' ((chkM rs fs i).length + 1)].toArray 35 (0, 0)) :: (rowO 54 r' ++ [(p3, Obj.cells #[kd, lv, .slice A1 fs.length c1] 32)])) rfl rfl rfl Try.func33 (by kernel_rfl) rfl (fun w1 hw1 => c33 (p5 := p5) (r := r) (len := (chkM rs fs i).length) (xs := (chkM rs fs i).flatMap pbC) (i := -1) (k := 21) (l1 := [(p17, Obj.cells rs[i].cells.toArray 27), (p18, Obj.map es clock)]) (l2 := [(p3, Obj.cells #[kd, lv, .slice A1 fs.length c1] 32)]) w1 hw1 hr (by have := chkM_len rs fs i; omega)) ?_
        intro r' hr'
        refine x_end ?_
        refine b_norm ?_
        refine t_norm ?_
        refine rg_text ?_
        refine x_val rfl rfl rfl (v_addi rfl rfl rfl (by first | omega | (dsimp only; omega))) ?_
        refine x_val rfl rfl rfl (v_move rfl) ?_
        refine x_end ?_
        have hck : chkM rs fs (i + 1) = chkM rs fs i ++ [⟨-1, 21⟩] := by rw [chkM_succ hil]; unfold mpb; rw [hcc]; rfl
        exact l_norm (i + 1, r') ⟨by omega, by dsimp only; rw [hck]; exact row_snoc hr'⟩ (by simp only; omega) (by repeat (first | exact Sub.nil | refine Sub.cons rfl ?_)) (fun w1 h => by dsimp only; rw [hck]; exact h.less (by simp) (fun _ h => h))
      · have hcc : (rs[i].must && !fs.any (fun f => mtc rs[i].tag f.tag)) = b116 := by rw [hb116, hb115, hb114, hb110]
        rw [hc116] at hcc
        refine w_skip ?_
        refine b_norm ?_
        refine t_norm ?_
        refine rg_text ?_
        refine x_val rfl rfl rfl (v_addi rfl rfl rfl (by first | omega | (dsimp only; omega))) ?_
        refine x_val rfl rfl rfl (v_move rfl) ?_
        refine x_end ?_
        have hck : chkM rs fs (i + 1) = chkM rs fs i := by rw [chkM_succ hil]; unfold mpb; rw [hcc]; simp
        exact l_norm (i + 1, r) ⟨by omega, by dsimp only; rw [hck]; exact hr⟩ (by simp only; omega) (by repeat (first | exact Sub.nil | refine Sub.cons rfl ?_)) (fun w1 h => by dsimp only; rw [hck]; exact h.less (by simp) (fun _ h => h))
    · simp only [hb105, decide_eq_true_eq, decide_eq_false_iff_not, Bool.and_eq_true, Bool.or_eq_true, Bool.and_eq_false_iff, Bool.or_eq_false_iff, Bool.not_eq_true', Bool.not_eq_false', ne_eq, Decidable.not_not] at hc105
      have hin : i = rs.length := by omega
      subst hin
      refine w_exit ?_
      refine t_exit ?_
      refine t_exit ?_
      refine b_hit ?_
      refine t_norm ?_
      refine w_seq ?_
      refine rg_text ?_
      refine x_val rfl rfl rfl (v_load Try.underlying35 rfl rfl (at_ownL (vs := [rowV r (chkM rs fs rs.length).length]) (e := 35) (fz := (0, 0)) (.tail _ (.head _)) rfl)) ?_
      refine x_val rfl rfl rfl (v_assign rfl) ?_
      refine x_end ?_
      refine t_norm ?_
      refine w_ret ?_
      refine sc_ret ?_
      refine ret1 rfl rfl (fun w' hm => ⟨_, rfl, hm.base (by simp), r, rfl, hr, [(p18, _), (p5, _)], hm.less (((List.sublist_append_left _ _).cons_cons _).cons_cons _) (fun s hs => List.mem_cons_of_mem _ hs)⟩)

end Go.Proofs.Ytmihkbciilloaaa
