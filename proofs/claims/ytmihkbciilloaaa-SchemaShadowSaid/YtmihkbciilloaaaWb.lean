import Derived.Test.YtmihkbciilloaaaWa
namespace Go.Proofs.Ytmihkbciilloaaa
open Go.RowKit Go.PK
set_option linter.unusedVariables false
set_option linter.unusedSimpArgs false
theorem c35 (p t : ByteArray) (w : World) (hp : okS p) (ht : okS t) :
    Calls Try.prog 35 #[.string p, .string t] w fun e w' => e = .returned (.bool (mtc p t)) ∧ Later w w' := by
  unfold okS at hp ht
  refine enter (vs := [.string p, .string t]) Try.func35 rfl Try.ntmps35 rfl ?_
  refine w_seq ?_
  refine rg_text ?_
  refine x_val rfl rfl rfl (v_assign rfl) ?_
  refine x_end ?_
  refine t_norm ?_
  refine w_seq ?_
  refine w_seq ?_
  refine rg_text ?_
  refine x_val rfl rfl rfl (v_move rfl) ?_
  refine x_val rfl rfl rfl (v_len_str Try.underlying9 rfl) ?_
  refine x_val rfl rfl rfl (v_move rfl) ?_
  refine x_val rfl rfl rfl (v_len_str Try.underlying9 rfl) ?_
  refine x_bool rfl rfl rfl (v_neq rfl rfl) ?_
  intro b10 hb10
  refine x_end ?_
  refine t_norm ?_
  refine w_cond rfl (fun hc10 => ?_) (fun hc10 => ?_)
  · simp only [hb10, decide_eq_true_eq, decide_eq_false_iff_not, Bool.and_eq_true, Bool.or_eq_true, Bool.and_eq_false_iff, Bool.or_eq_false_iff, Bool.not_eq_true', Bool.not_eq_false', ne_eq, Decidable.not_not] at hc10
    refine w_seq ?_
    refine rg_text ?_
    refine x_val rfl rfl rfl (v_assign rfl) ?_
    refine x_end ?_
    refine t_norm ?_
    refine w_ret ?_
    refine t_ret ?_
    refine ret1 rfl rfl (fun w' hm => ⟨?_, hm.base (by simp)⟩)
    rw [mtc_size (by omega)]
  · simp only [hb10, decide_eq_true_eq, decide_eq_false_iff_not, Bool.and_eq_true, Bool.or_eq_true, Bool.and_eq_false_iff, Bool.or_eq_false_iff, Bool.not_eq_true', Bool.not_eq_false', ne_eq, Decidable.not_not] at hc10
    refine w_skip ?_
    refine t_norm ?_
    refine w_seq ?_
    refine w_seq ?_
    refine rg_text ?_
    refine x_val rfl rfl rfl (v_move rfl) ?_
    refine x_val rfl rfl rfl (v_len_str Try.underlying9 rfl) ?_
    refine x_val rfl rfl rfl (v_move rfl) ?_
    refine x_end ?_
    refine t_norm ?_
    refine w_block ?_
    refine w_loop (σ := Nat) (fun k => k ≤ t.size ∧ p.size = t.size ∧ ∀ j, j < k → okM p t j) (fun k => [(0, .string p), (1, .string t), (12, .int .i64 t.size), (13, .int .i64 k)]) (fun k => []) (fun k => [(w, fun _ => True)]) (fun k => t.size - k) (0) (⟨by omega, by omega, by intros; omega⟩) (l_start (by repeat (first | exact Sub.nil | refine Sub.cons rfl ?_)) (fun _ h => h)) ?_
    rintro k ⟨hk, hz, hall⟩
    refine w_seq ?_
    refine rg_text ?_
    refine x_bool rfl rfl rfl (v_lss rfl rfl) ?_
    intro b14 hb14
    refine x_end ?_
    refine t_norm ?_
    refine w_seq ?_
    refine w_cond rfl (fun hc14 => ?_) (fun hc14 => ?_)
    · simp only [hb14, decide_eq_true_eq, decide_eq_false_iff_not, Bool.and_eq_true, Bool.or_eq_true, Bool.and_eq_false_iff, Bool.or_eq_false_iff, Bool.not_eq_true', Bool.not_eq_false', ne_eq, Decidable.not_not] at hc14
      refine w_skip ?_
      refine t_norm ?_
      refine w_seq ?_
      refine w_block ?_
      refine w_seq ?_
      refine rg_text ?_
      refine x_val rfl rfl rfl (v_move rfl) ?_
      refine x_val rfl rfl rfl (v_assign rfl) ?_
      refine x_end ?_
      refine t_norm ?_
      refine w_seq ?_
      refine rg_draw 22 [(true, 0), (true, 1), (true, 2), (true, 3), (true, 4), (true, 5), (true, 6), (true, 7), (true, 8), (true, 9), (true, 10), (true, 11), (true, 12), (true, 13), (true, 14), (true, 15), (true, 16), (true, 17), (true, 18), (true, 19), (true, 20), (true, 21)] (by kernel_rfl) (by kernel_rfl) ?_
      refine x_val rfl rfl rfl (v_move rfl) ?_
      refine x_val rfl rfl rfl (v_move rfl) ?_
      refine x_val rfl rfl rfl (v_index Try.underlying9 rfl rfl (by first | omega | (dsimp only; omega))) ?_
      refine x_val rfl rfl rfl (v_move rfl) ?_
      refine x_val rfl rfl rfl (v_move rfl) ?_
      refine x_val rfl rfl rfl (v_index Try.underlying9 rfl rfl (by first | omega | (dsimp only; omega))) ?_
      refine x_bool rfl rfl rfl (v_neq rfl rfl) ?_
      intro b22 hb22
      refine x_val rfl rfl rfl (v_move rfl) ?_
      refine x_if [] rfl rfl rfl rfl rfl (fun hg => by obtain ⟨hg0, _⟩ := hg; subst hg0; (try simp only [List.cons_append, List.nil_append, gvl_nil, gvl_t, gvl_f]); exact v_move rfl) ?_
      refine x_if [] rfl rfl rfl rfl rfl (fun hg => by obtain ⟨hg0, _⟩ := hg; subst hg0; (try simp only [List.cons_append, List.nil_append, gvl_nil, gvl_t, gvl_f]); exact v_move rfl) ?_
      refine x_if [] rfl rfl rfl rfl rfl (fun hg => by obtain ⟨hg0, _⟩ := hg; subst hg0; (try simp only [List.cons_append, List.nil_append, gvl_nil, gvl_t, gvl_f]); exact v_index Try.underlying9 rfl rfl (by first | omega | (dsimp only; omega))) ?_
      refine x_ifb [] rfl rfl rfl rfl rfl (fun hg => by obtain ⟨hg0, _⟩ := hg; subst hg0; (try simp only [List.cons_append, List.nil_append, gvl_nil, gvl_t, gvl_f]); exact v_neq rfl rfl) ?_
      intro b27 hb27
      refine x_if [] rfl rfl rfl rfl rfl (fun hg => by obtain ⟨hg0, _⟩ := hg; subst hg0; (try simp only [List.cons_append, List.nil_append, gvl_nil, gvl_t, gvl_f]); exact v_move rfl) ?_
      refine x_if [(b22, true)] rfl rfl rfl rfl rfl (fun hg => by obtain ⟨hg0, hg1, _⟩ := hg; subst hg0; subst hg1; (try simp only [List.cons_append, List.nil_append, gvl_nil, gvl_t, gvl_f]); exact v_move rfl) ?_
      refine x_if [(b22, true)] rfl rfl rfl rfl rfl (fun hg => by obtain ⟨hg0, hg1, _⟩ := hg; subst hg0; subst hg1; (try simp only [List.cons_append, List.nil_append, gvl_nil, gvl_t, gvl_f]); exact v_move rfl) ?_
      refine x_if [(b22, true)] rfl rfl rfl rfl rfl (fun hg => by obtain ⟨hg0, hg1, _⟩ := hg; subst hg0; subst hg1; (try simp only [List.cons_append, List.nil_append, gvl_nil, gvl_t, gvl_f]); exact v_move rfl) ?_
      refine x_if [(b22, true)] rfl rfl rfl rfl rfl (fun hg => by obtain ⟨hg0, hg1, _⟩ := hg; subst hg0; subst hg1; (try simp only [List.cons_append, List.nil_append, gvl_nil, gvl_t, gvl_f]); exact v_addi rfl rfl rfl (by first | omega | (dsimp only; omega))) ?_
      refine x_if [(b22, true)] rfl rfl rfl rfl rfl (fun hg => by obtain ⟨hg0, hg1, _⟩ := hg; subst hg0; subst hg1; (try simp only [List.cons_append, List.nil_append, gvl_nil, gvl_t, gvl_f]); exact v_cut (i := k) (j := k + 1) Try.underlying9 rfl rfl rfl (by first | omega | (dsimp only; omega)) (by first | omega | (dsimp only; omega))) ?_
      refine x_call_ifb [(b22, true)] rfl rfl rfl rfl rfl Try.func46 (by kernel_rfl) (fun hg => by obtain ⟨hg0, hg1, _⟩ := hg; subst hg0; subst hg1; (try simp only [List.cons_append, List.nil_append, gvl_nil, gvl_t, gvl_f]); refine ⟨_, rfl, ?_⟩; exact fun w hw => c46 _ _ w (by rw [ByteArray.size_extract]; omega)) ?_
      intro b34 hb34
      refine x_ifb [(b22, true)] rfl rfl rfl rfl rfl (fun hg => by obtain ⟨hg0, hg1, _⟩ := hg; subst hg0; subst hg1; (try simp only [List.cons_append, List.nil_append, gvl_nil, gvl_t, gvl_f]); exact v_not rfl) ?_
      intro b35 hb35
      refine x_ifb [] rfl rfl rfl rfl rfl (fun hg => by obtain ⟨hg0, _⟩ := hg; subst hg0; (try simp only [List.cons_append, List.nil_append, gvl_nil, gvl_t, gvl_f]); exact v_or rfl rfl) ?_
      intro b36 hb36
      refine x_bool rfl rfl rfl (v_and rfl rfl) ?_
      intro b37 hb37
      refine x_end ?_
      refine t_norm ?_
      refine w_cond rfl (fun hc37 => ?_) (fun hc37 => ?_)
      · simp only [hb37, hb36, hb35, hb34, hb27, hb22, decide_eq_true_eq, decide_eq_false_iff_not, Bool.and_eq_true, Bool.or_eq_true, Bool.and_eq_false_iff, Bool.or_eq_false_iff, Bool.not_eq_true', Bool.not_eq_false', ne_eq, Decidable.not_not] at hc37
        rw [Bool.eq_false_iff, ne_eq, hasB_digits, byteAt_extract (by omega) (by omega)] at hc37
        refine w_seq ?_
        refine rg_text ?_
        refine x_val rfl rfl rfl (v_assign rfl) ?_
        refine x_end ?_
        refine t_norm ?_
        refine w_ret ?_
        refine b_ret ?_
        refine t_ret ?_
        refine t_ret ?_
        refine b_ret ?_
        refine t_ret ?_
        refine ret1 rfl rfl (fun w' hm => ⟨?_, hm.base (by simp)⟩)
        rw [mtc_at (k := k) (by omega) (m_no hc37)]
      · simp only [hb37, hb36, hb35, hb34, hb27, hb22, decide_eq_true_eq, decide_eq_false_iff_not, Bool.and_eq_true, Bool.or_eq_true, Bool.and_eq_false_iff, Bool.or_eq_false_iff, Bool.not_eq_true', Bool.not_eq_false', ne_eq, Decidable.not_not] at hc37
        rw [hasB_digits, byteAt_extract (by omega) (by omega)] at hc37
        refine w_skip ?_
        refine b_norm ?_
        refine t_norm ?_
        refine rg_text ?_
        refine x_val rfl rfl rfl (v_addi rfl rfl rfl (by first | omega | (dsimp only; omega))) ?_
        refine x_val rfl rfl rfl (v_move rfl) ?_
        refine x_end ?_
        exact l_norm (k+1) (⟨by omega, hz, snoc_all hall (m_yes hc37)⟩) (by omega) (by repeat (first | exact Sub.nil | refine Sub.cons rfl ?_)) (fun _ h => h)
    · simp only [hb14, decide_eq_true_eq, decide_eq_false_iff_not, Bool.and_eq_true, Bool.or_eq_true, Bool.and_eq_false_iff, Bool.or_eq_false_iff, Bool.not_eq_true', Bool.not_eq_false', ne_eq, Decidable.not_not] at hc14
      refine w_exit ?_
      refine t_exit ?_
      refine t_exit ?_
      refine b_hit ?_
      refine t_norm ?_
      refine w_seq ?_
      refine rg_text ?_
      refine x_val rfl rfl rfl (v_assign rfl) ?_
      refine x_end ?_
      refine t_norm ?_
      refine w_ret ?_
      refine ret1 rfl rfl (fun w' hm => ⟨?_, hm.base (by simp)⟩)
      rw [mtc_true hz (fun j hj => hall j (by omega))]
theorem c53 (r : Rl) (tag : ByteArray) (b : Nat) (w : World) (h1 : okS r.tag) (h2 : okS tag) (hc : w.cell? ⟨b, 0, none⟩ = some (.string tag)) :
    Calls Try.prog 53 #[.agg #[.string r.tag, .bool r.must, .bool r.once, .string r.i0, .string r.i1, .string r.codes, .string r.single], .pointer (some ⟨b, 0, none⟩)] w fun e w' => e = .returned (.bool (mtc r.tag tag)) ∧ Later w w' := by
  refine enter (vs := [.agg #[.string r.tag, .bool r.must, .bool r.once, .string r.i0, .string r.i1, .string r.codes, .string r.single], .pointer (some ⟨b, 0, none⟩)]) Try.func53 rfl Try.ntmps53 rfl ?_
  refine w_seq ?_
  refine rg_text ?_
  refine x_box rfl rfl rfl rfl ?_
  intro p2
  refine x_val rfl rfl rfl (v_assign rfl) ?_
  refine x_end ?_
  refine t_norm ?_
  refine w_seq ?_
  refine rg_text ?_
  refine x_val rfl rfl rfl (v_fieldAddr (off' := 0) Try.underlying27 rfl sz9 (by decide) rfl rfl) ?_
  refine x_val rfl rfl rfl (v_load Try.underlying9 rfl rfl (by first | exact at_ownL (.head _) rfl | exact at_ownL (.tail _ (.head _)) rfl | exact at_ownL (.tail _ (.tail _ (.head _))) rfl | (apply at_ownL; ((repeat (first | exact List.Mem.head _ | apply List.Mem.tail | apply List.mem_append_right))); rfl) | (refine at_ro (by first | exact .head _ | exact .tail _ (.head _) | exact .tail _ (.tail _ (.head _)) | simp) ?_ (by assumption); trivial))) ?_
  refine x_val rfl rfl rfl (v_load Try.underlying9 rfl rfl (by first | exact at_ownL (.head _) rfl | exact at_ownL (.tail _ (.head _)) rfl | exact at_ownL (.tail _ (.tail _ (.head _))) rfl | (apply at_ownL; ((repeat (first | exact List.Mem.head _ | apply List.Mem.tail | apply List.mem_append_right))); rfl) | (refine at_ro (by first | exact .head _ | exact .tail _ (.head _) | exact .tail _ (.tail _ (.head _)) | simp) ?_ (by assumption); trivial))) ?_
  refine x_callb rfl rfl rfl Try.func35 (by kernel_rfl) rfl (fun w hw => c35 _ _ w (by assumption) (by assumption)) ?_
  intro b7 hb7
  refine x_val rfl rfl rfl (v_assign rfl) ?_
  refine x_end ?_
  refine t_norm ?_
  refine w_ret ?_
  refine ret1 rfl rfl (fun w' hm => ⟨?_, hm.base (by simp)⟩)
  rw [hb7]
theorem c52 {v : Value} {xs : List Rl} {p : Rl → Bool} {fk : FuncId} {g : Func} {cap : Array Value} {D : Nat → Prop} (w : World) (hxs : sliceRd tyRl D w v xs) (hg : Try.prog.funcs[fk]? = some g) (hgb : (!(g.name == "runtime.NumGoroutine") && g.body.isSome) = true) (hp : ∀ w1, Later w w1 → ∀ vs x, x ∈ xs → tyRl.rd (fun _ => True) w1 vs x → Calls Try.prog fk (#[.agg vs.toArray] ++ cap) w1 fun e w2 => e = .returned (.bool (p x)) ∧ Later w1 w2) :
    Calls Try.prog 52 #[v, .func (.func fk) #[] cap] w fun e w' => e = .returned (.int .i64 (fidx p xs)) ∧ Later w w' := by
  obtain ⟨A, c, rfl, hlc, hmx, hA⟩ := hxs
  refine enter (vs := [.slice A xs.length c, .func (.func fk) #[] cap]) Try.func52 rfl Try.ntmps52 rfl ?_
  refine w_seq ?_
  refine rg_text ?_
  refine x_val rfl rfl rfl (v_assign rfl) ?_
  refine x_end ?_
  refine t_norm ?_
  refine w_seq ?_
  refine w_seq ?_
  refine rg_text ?_
  refine x_val rfl rfl rfl (v_move rfl) ?_
  refine x_val rfl rfl rfl (v_len_slice Try.underlying23 rfl) ?_
  refine x_val rfl rfl rfl (v_move rfl) ?_
  refine x_end ?_
  refine t_norm ?_
  refine w_block ?_
  refine w_loop (σ := Nat) (fun k => k ≤ xs.length ∧ ∀ j (hj : j < xs.length), j < k → p xs[j] = false) (fun k => [(0, .slice A xs.length c), (1, .func (.func fk) #[] cap), (7, .int .i64 xs.length), (8, .int .i64 k)]) (fun k => []) (fun k => [(w, fun _ => True)]) (fun k => xs.length - k) (0) (⟨by omega, by intros; omega⟩) (l_start (by repeat (first | exact Sub.nil | refine Sub.cons rfl ?_)) (fun _ h => h)) ?_
  rintro k ⟨hk, hno⟩
  refine w_seq ?_
  refine rg_text ?_
  refine x_bool rfl rfl rfl (v_lss rfl rfl) ?_
  intro b9 hb9
  refine x_end ?_
  refine t_norm ?_
  refine w_seq ?_
  refine w_cond rfl (fun hc9 => ?_) (fun hc9 => ?_)
  · simp only [hb9, decide_eq_true_eq, decide_eq_false_iff_not, Bool.and_eq_true, Bool.or_eq_true, Bool.and_eq_false_iff, Bool.or_eq_false_iff, Bool.not_eq_true', Bool.not_eq_false', ne_eq, Decidable.not_not] at hc9
    have hkl : k < xs.length := by omega
    obtain ⟨b, off, rfl, hD, hb, hcell⟩ := hA (by omega)
    obtain ⟨cs, hcs, hrd⟩ := hcell k hkl
    have hlen := tyRl.len hrd
    refine w_skip ?_
    refine t_norm ?_
    refine w_seq ?_
    refine w_block ?_
    refine w_seq ?_
    refine rg_text ?_
    refine x_val rfl rfl rfl (v_move rfl) ?_
    refine x_val rfl rfl rfl (v_assign rfl) ?_
    refine x_end ?_
    refine t_norm ?_
    refine w_seq ?_
    refine rg_text ?_
    refine x_val rfl rfl rfl (v_move rfl) ?_
    refine x_val rfl rfl rfl (v_move rfl) ?_
    refine x_val rfl rfl rfl (v_move rfl) ?_
    refine x_val rfl rfl rfl (v_indexAddr Try.underlying23 sz27 rfl rfl (by first | omega | (dsimp only; omega)) rfl) ?_
    refine x_val rfl rfl rfl (v_loadN (vs := cs) Try.underlying27 rfl (by rw [hlen]; exact sz27) rfl (fun i hi => at_ro (.head _) trivial (hcs i hi))) ?_
    refine x_clb rfl rfl rfl rfl hg hgb rfl (fun w1 hw1 => hp w1 (hw1.base (by simp)) cs _ (List.getElem_mem hkl) (tyRl.keep hrd (Kept.all (hw1.base (by simp))))) ?_
    intro b16 hb16
    refine x_end ?_
    refine t_norm ?_
    refine w_cond rfl (fun hc16 => ?_) (fun hc16 => ?_)
    · skip
      refine w_seq ?_
      refine rg_text ?_
      refine x_val rfl rfl rfl (v_move rfl) ?_
      refine x_val rfl rfl rfl (v_assign rfl) ?_
      refine x_end ?_
      refine t_norm ?_
      refine w_ret ?_
      refine b_ret ?_
      refine t_ret ?_
      refine t_ret ?_
      refine b_ret ?_
      refine t_ret ?_
      refine ret1 rfl rfl (fun w' hm => ⟨?_, hm.base (by simp)⟩)
      rw [fidx_at (k := k) hkl (by rw [← hb16]; exact hc16) hno]
    · skip
      refine w_skip ?_
      refine b_norm ?_
      refine t_norm ?_
      refine rg_text ?_
      refine x_val rfl rfl rfl (v_addi rfl rfl rfl (by first | omega | (dsimp only; omega))) ?_
      refine x_val rfl rfl rfl (v_move rfl) ?_
      refine x_end ?_
      exact l_norm (k+1) (⟨by omega, snoc_all' hno (fun hj => by rw [← hb16]; exact hc16)⟩) (by omega) (by repeat (first | exact Sub.nil | refine Sub.cons rfl ?_)) (fun _ h => h)
  · simp only [hb9, decide_eq_true_eq, decide_eq_false_iff_not, Bool.and_eq_true, Bool.or_eq_true, Bool.and_eq_false_iff, Bool.or_eq_false_iff, Bool.not_eq_true', Bool.not_eq_false', ne_eq, Decidable.not_not] at hc9
    refine w_exit ?_
    refine t_exit ?_
    refine t_exit ?_
    refine b_hit ?_
    refine t_norm ?_
    refine w_seq ?_
    refine rg_text ?_
    refine x_val rfl rfl rfl (v_assign rfl) ?_
    refine x_end ?_
    refine t_norm ?_
    refine w_ret ?_
    refine ret1 rfl rfl (fun w' hm => ⟨?_, hm.base (by simp)⟩)
    rw [fidx_none (fun j hj => hno j hj (by omega))]
theorem c55 {v : Value} {xs : List Fl} {p : Fl → Bool} {fk : FuncId} {g : Func} {cap : Array Value} {D : Nat → Prop} (w : World) (hxs : sliceRd tyFl D w v xs) (hg : Try.prog.funcs[fk]? = some g) (hgb : (!(g.name == "runtime.NumGoroutine") && g.body.isSome) = true) (hp : ∀ w1, Later w w1 → ∀ vs x, x ∈ xs → tyFl.rd (fun _ => True) w1 vs x → Calls Try.prog fk (#[.agg vs.toArray] ++ cap) w1 fun e w2 => e = .returned (.bool (p x)) ∧ Later w1 w2) :
    Calls Try.prog 55 #[v, .func (.func fk) #[] cap] w fun e w' => e = .returned (.int .i64 (fidx p xs)) ∧ Later w w' := by
  obtain ⟨A, c, rfl, hlc, hmx, hA⟩ := hxs
  refine enter (vs := [.slice A xs.length c, .func (.func fk) #[] cap]) Try.func55 rfl Try.ntmps55 rfl ?_
  refine w_seq ?_
  refine rg_text ?_
  refine x_val rfl rfl rfl (v_assign rfl) ?_
  refine x_end ?_
  refine t_norm ?_
  refine w_seq ?_
  refine w_seq ?_
  refine rg_text ?_
  refine x_val rfl rfl rfl (v_move rfl) ?_
  refine x_val rfl rfl rfl (v_len_slice Try.underlying30 rfl) ?_
  refine x_val rfl rfl rfl (v_move rfl) ?_
  refine x_end ?_
  refine t_norm ?_
  refine w_block ?_
  refine w_loop (σ := Nat) (fun k => k ≤ xs.length ∧ ∀ j (hj : j < xs.length), j < k → p xs[j] = false) (fun k => [(0, .slice A xs.length c), (1, .func (.func fk) #[] cap), (7, .int .i64 xs.length), (8, .int .i64 k)]) (fun k => []) (fun k => [(w, fun _ => True)]) (fun k => xs.length - k) (0) (⟨by omega, by intros; omega⟩) (l_start (by repeat (first | exact Sub.nil | refine Sub.cons rfl ?_)) (fun _ h => h)) ?_
  rintro k ⟨hk, hno⟩
  refine w_seq ?_
  refine rg_text ?_
  refine x_bool rfl rfl rfl (v_lss rfl rfl) ?_
  intro b9 hb9
  refine x_end ?_
  refine t_norm ?_
  refine w_seq ?_
  refine w_cond rfl (fun hc9 => ?_) (fun hc9 => ?_)
  · simp only [hb9, decide_eq_true_eq, decide_eq_false_iff_not, Bool.and_eq_true, Bool.or_eq_true, Bool.and_eq_false_iff, Bool.or_eq_false_iff, Bool.not_eq_true', Bool.not_eq_false', ne_eq, Decidable.not_not] at hc9
    have hkl : k < xs.length := by omega
    obtain ⟨b, off, rfl, hD, hb, hcell⟩ := hA (by omega)
    obtain ⟨cs, hcs, hrd⟩ := hcell k hkl
    have hlen := tyFl.len hrd
    refine w_skip ?_
    refine t_norm ?_
    refine w_seq ?_
    refine w_block ?_
    refine w_seq ?_
    refine rg_text ?_
    refine x_val rfl rfl rfl (v_move rfl) ?_
    refine x_val rfl rfl rfl (v_assign rfl) ?_
    refine x_end ?_
    refine t_norm ?_
    refine w_seq ?_
    refine rg_text ?_
    refine x_val rfl rfl rfl (v_move rfl) ?_
    refine x_val rfl rfl rfl (v_move rfl) ?_
    refine x_val rfl rfl rfl (v_move rfl) ?_
    refine x_val rfl rfl rfl (v_indexAddr Try.underlying30 sz46 rfl rfl (by first | omega | (dsimp only; omega)) rfl) ?_
    refine x_val rfl rfl rfl (v_loadN (vs := cs) Try.underlying46 rfl (by rw [hlen]; exact sz46) rfl (fun i hi => at_ro (.head _) trivial (hcs i hi))) ?_
    refine x_clb rfl rfl rfl rfl hg hgb rfl (fun w1 hw1 => hp w1 (hw1.base (by simp)) cs _ (List.getElem_mem hkl) (tyFl.keep hrd (Kept.all (hw1.base (by simp))))) ?_
    intro b16 hb16
    refine x_end ?_
    refine t_norm ?_
    refine w_cond rfl (fun hc16 => ?_) (fun hc16 => ?_)
    · skip
      refine w_seq ?_
      refine rg_text ?_
      refine x_val rfl rfl rfl (v_move rfl) ?_
      refine x_val rfl rfl rfl (v_assign rfl) ?_
      refine x_end ?_
      refine t_norm ?_
      refine w_ret ?_
      refine b_ret ?_
      refine t_ret ?_
      refine t_ret ?_
      refine b_ret ?_
      refine t_ret ?_
      refine ret1 rfl rfl (fun w' hm => ⟨?_, hm.base (by simp)⟩)
      rw [fidx_at (k := k) hkl (by rw [← hb16]; exact hc16) hno]
    · skip
      refine w_skip ?_
      refine b_norm ?_
      refine t_norm ?_
      refine rg_text ?_
      refine x_val rfl rfl rfl (v_addi rfl rfl rfl (by first | omega | (dsimp only; omega))) ?_
      refine x_val rfl rfl rfl (v_move rfl) ?_
      refine x_end ?_
      exact l_norm (k+1) (⟨by omega, snoc_all' hno (fun hj => by rw [← hb16]; exact hc16)⟩) (by omega) (by repeat (first | exact Sub.nil | refine Sub.cons rfl ?_)) (fun _ h => h)
  · simp only [hb9, decide_eq_true_eq, decide_eq_false_iff_not, Bool.and_eq_true, Bool.or_eq_true, Bool.and_eq_false_iff, Bool.or_eq_false_iff, Bool.not_eq_true', Bool.not_eq_false', ne_eq, Decidable.not_not] at hc9
    refine w_exit ?_
    refine t_exit ?_
    refine t_exit ?_
    refine b_hit ?_
    refine t_norm ?_
    refine w_seq ?_
    refine rg_text ?_
    refine x_val rfl rfl rfl (v_assign rfl) ?_
    refine x_end ?_
    refine t_norm ?_
    refine w_ret ?_
    refine ret1 rfl rfl (fun w' hm => ⟨?_, hm.base (by simp)⟩)
    rw [fidx_none (fun j hj => hno j hj (by omega))]
theorem c57 {v : Value} {xs : List Sb} {p : Sb → Bool} {fk : FuncId} {g : Func} {cap : Array Value} {D : Nat → Prop} (w : World) (hxs : sliceRd tySb D w v xs) (hg : Try.prog.funcs[fk]? = some g) (hgb : (!(g.name == "runtime.NumGoroutine") && g.body.isSome) = true) (hp : ∀ w1, Later w w1 → ∀ vs x, x ∈ xs → tySb.rd (fun _ => True) w1 vs x → Calls Try.prog fk (#[.agg vs.toArray] ++ cap) w1 fun e w2 => e = .returned (.bool (p x)) ∧ Later w1 w2) :
    Calls Try.prog 57 #[v, .func (.func fk) #[] cap] w fun e w' => e = .returned (.int .i64 (fidx p xs)) ∧ Later w w' := by
  obtain ⟨A, c, rfl, hlc, hmx, hA⟩ := hxs
  refine enter (vs := [.slice A xs.length c, .func (.func fk) #[] cap]) Try.func57 rfl Try.ntmps57 rfl ?_
  refine w_seq ?_
  refine rg_text ?_
  refine x_val rfl rfl rfl (v_assign rfl) ?_
  refine x_end ?_
  refine t_norm ?_
  refine w_seq ?_
  refine w_seq ?_
  refine rg_text ?_
  refine x_val rfl rfl rfl (v_move rfl) ?_
  refine x_val rfl rfl rfl (v_len_slice Try.underlying44 rfl) ?_
  refine x_val rfl rfl rfl (v_move rfl) ?_
  refine x_end ?_
  refine t_norm ?_
  refine w_block ?_
  refine w_loop (σ := Nat) (fun k => k ≤ xs.length ∧ ∀ j (hj : j < xs.length), j < k → p xs[j] = false) (fun k => [(0, .slice A xs.length c), (1, .func (.func fk) #[] cap), (7, .int .i64 xs.length), (8, .int .i64 k)]) (fun k => []) (fun k => [(w, fun _ => True)]) (fun k => xs.length - k) (0) (⟨by omega, by intros; omega⟩) (l_start (by repeat (first | exact Sub.nil | refine Sub.cons rfl ?_)) (fun _ h => h)) ?_
  rintro k ⟨hk, hno⟩
  refine w_seq ?_
  refine rg_text ?_
  refine x_bool rfl rfl rfl (v_lss rfl rfl) ?_
  intro b9 hb9
  refine x_end ?_
  refine t_norm ?_
  refine w_seq ?_
  refine w_cond rfl (fun hc9 => ?_) (fun hc9 => ?_)
  · simp only [hb9, decide_eq_true_eq, decide_eq_false_iff_not, Bool.and_eq_true, Bool.or_eq_true, Bool.and_eq_false_iff, Bool.or_eq_false_iff, Bool.not_eq_true', Bool.not_eq_false', ne_eq, Decidable.not_not] at hc9
    have hkl : k < xs.length := by omega
    obtain ⟨b, off, rfl, hD, hb, hcell⟩ := hA (by omega)
    obtain ⟨cs, hcs, hrd⟩ := hcell k hkl
    have hlen := tySb.len hrd
    refine w_skip ?_
    refine t_norm ?_
    refine w_seq ?_
    refine w_block ?_
    refine w_seq ?_
    refine rg_text ?_
    refine x_val rfl rfl rfl (v_move rfl) ?_
    refine x_val rfl rfl rfl (v_assign rfl) ?_
    refine x_end ?_
    refine t_norm ?_
    refine w_seq ?_
    refine rg_text ?_
    refine x_val rfl rfl rfl (v_move rfl) ?_
    refine x_val rfl rfl rfl (v_move rfl) ?_
    refine x_val rfl rfl rfl (v_move rfl) ?_
    refine x_val rfl rfl rfl (v_indexAddr Try.underlying44 sz48 rfl rfl (by first | omega | (dsimp only; omega)) rfl) ?_
    refine x_val rfl rfl rfl (v_loadN (vs := cs) Try.underlying48 rfl (by rw [hlen]; exact sz48) rfl (fun i hi => at_ro (.head _) trivial (hcs i hi))) ?_
    refine x_clb rfl rfl rfl rfl hg hgb rfl (fun w1 hw1 => hp w1 (hw1.base (by simp)) cs _ (List.getElem_mem hkl) (tySb.keep hrd (Kept.all (hw1.base (by simp))))) ?_
    intro b16 hb16
    refine x_end ?_
    refine t_norm ?_
    refine w_cond rfl (fun hc16 => ?_) (fun hc16 => ?_)
    · skip
      refine w_seq ?_
      refine rg_text ?_
      refine x_val rfl rfl rfl (v_move rfl) ?_
      refine x_val rfl rfl rfl (v_assign rfl) ?_
      refine x_end ?_
      refine t_norm ?_
      refine w_ret ?_
      refine b_ret ?_
      refine t_ret ?_
      refine t_ret ?_
      refine b_ret ?_
      refine t_ret ?_
      refine ret1 rfl rfl (fun w' hm => ⟨?_, hm.base (by simp)⟩)
      rw [fidx_at (k := k) hkl (by rw [← hb16]; exact hc16) hno]
    · skip
      refine w_skip ?_
      refine b_norm ?_
      refine t_norm ?_
      refine rg_text ?_
      refine x_val rfl rfl rfl (v_addi rfl rfl rfl (by first | omega | (dsimp only; omega))) ?_
      refine x_val rfl rfl rfl (v_move rfl) ?_
      refine x_end ?_
      exact l_norm (k+1) (⟨by omega, snoc_all' hno (fun hj => by rw [← hb16]; exact hc16)⟩) (by omega) (by repeat (first | exact Sub.nil | refine Sub.cons rfl ?_)) (fun _ h => h)
  · simp only [hb9, decide_eq_true_eq, decide_eq_false_iff_not, Bool.and_eq_true, Bool.or_eq_true, Bool.and_eq_false_iff, Bool.or_eq_false_iff, Bool.not_eq_true', Bool.not_eq_false', ne_eq, Decidable.not_not] at hc9
    refine w_exit ?_
    refine t_exit ?_
    refine t_exit ?_
    refine b_hit ?_
    refine t_norm ?_
    refine w_seq ?_
    refine rg_text ?_
    refine x_val rfl rfl rfl (v_assign rfl) ?_
    refine x_end ?_
    refine t_norm ?_
    refine w_ret ?_
    refine ret1 rfl rfl (fun w' hm => ⟨?_, hm.base (by simp)⟩)
    rw [fidx_none (fun j hj => hno j hj (by omega))]

end Go.Proofs.Ytmihkbciilloaaa
