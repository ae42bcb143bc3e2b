import Derived.Test.YtmihkbciilloaaaFacts
namespace Go.Proofs.Ytmihkbciilloaaa
open Go.RowKit Go.PK
set_option linter.unusedVariables false
set_option linter.unusedSimpArgs false
theorem c58 (s : ByteArray) (c : UInt8) (w : World) :
    Calls Try.prog 58 #[.string s, .int .u8 c.toNat] w fun e w' => e = .returned (.int .i64 (firstIdx s c)) ∧ Later w w' := by
  refine enter (vs := [.string s, .int .u8 c.toNat]) Try.func58 rfl Try.ntmps58 rfl ?_
  refine w_seq ?_
  refine rg_text ?_
  refine x_val rfl rfl rfl (v_assign rfl) ?_
  refine x_end ?_
  refine t_norm ?_
  refine w_seq ?_
  refine rg_text ?_
  refine x_val rfl rfl rfl (v_move rfl) ?_
  refine x_val rfl rfl rfl (v_move rfl) ?_
  refine x_val rfl rfl rfl (v_idxb Try.func61 (by kernel_rfl) (by kernel_rfl) (by kernel_rfl) (by kernel_rfl) rfl rfl) ?_
  refine x_val rfl rfl rfl (v_assign rfl) ?_
  refine x_end ?_
  refine t_norm ?_
  refine w_ret ?_
  refine ret1 rfl rfl (fun w' hm => ⟨?_, hm.base (by simp)⟩)
  first | rfl | rw [u8b]
theorem c50 (s : ByteArray) (c : UInt8) (w : World) :
    Calls Try.prog 50 #[.string s, .int .u8 c.toNat] w fun e w' => e = .returned (.int .i64 (firstIdx s c)) ∧ Later w w' := by
  refine enter (vs := [.string s, .int .u8 c.toNat]) Try.func50 rfl Try.ntmps50 rfl ?_
  refine w_seq ?_
  refine rg_text ?_
  refine x_val rfl rfl rfl (v_assign rfl) ?_
  refine x_end ?_
  refine t_norm ?_
  refine w_seq ?_
  refine rg_text ?_
  refine x_val rfl rfl rfl (v_move rfl) ?_
  refine x_val rfl rfl rfl (v_move rfl) ?_
  refine x_callv rfl rfl rfl Try.func58 (by kernel_rfl) rfl (fun w hw => c58 _ _ w) ?_
  refine x_val rfl rfl rfl (v_assign rfl) ?_
  refine x_end ?_
  refine t_norm ?_
  refine w_ret ?_
  refine ret1 rfl rfl (fun w' hm => ⟨?_, hm.base (by simp)⟩)
  first | rfl | rw [u8b]
theorem c59 (s p : ByteArray) (w : World) :
    Calls Try.prog 59 #[.string s, .string p] w fun e w' => e = .returned (.bool (pre s p)) ∧ Later w w' := by
  refine enter (vs := [.string s, .string p]) Try.func59 rfl Try.ntmps59 rfl ?_
  refine w_seq ?_
  refine rg_text ?_
  refine x_val rfl rfl rfl (v_assign rfl) ?_
  refine x_end ?_
  refine t_norm ?_
  refine w_seq ?_
  refine rg_text ?_
  refine x_val rfl rfl rfl (v_move rfl) ?_
  refine x_val rfl rfl rfl (v_len_str Try.underlying9 rfl) ?_
  refine x_val rfl rfl rfl (v_move rfl) ?_
  refine x_val rfl rfl rfl (v_len_str Try.underlying9 rfl) ?_
  refine x_bool rfl rfl rfl (v_geq rfl rfl) ?_
  intro b9 hb9
  refine x_val rfl rfl rfl (v_move rfl) ?_
  refine x_if [] rfl rfl rfl rfl rfl (fun hg => by obtain ⟨hg0, _⟩ := hg; subst hg0; (try simp only [List.cons_append, List.nil_append, gvl_nil, gvl_t, gvl_f]); exact v_move rfl) ?_
  refine x_if [] rfl rfl rfl rfl rfl (fun hg => by obtain ⟨hg0, _⟩ := hg; subst hg0; (try simp only [List.cons_append, List.nil_append, gvl_nil, gvl_t, gvl_f]); exact v_move rfl) ?_
  refine x_if [] rfl rfl rfl rfl rfl (fun hg => by obtain ⟨hg0, _⟩ := hg; subst hg0; (try simp only [List.cons_append, List.nil_append, gvl_nil, gvl_t, gvl_f]); exact v_len_str Try.underlying9 rfl) ?_
  refine x_if [] rfl rfl rfl rfl rfl (fun hg => by obtain ⟨hg0, _⟩ := hg; subst hg0; (try simp only [List.cons_append, List.nil_append, gvl_nil, gvl_t, gvl_f]); have h1 := of_decide_eq_true hb9.symm; exact v_cut_to Try.underlying9 rfl rfl (by first | omega | (dsimp only; omega))) ?_
  refine x_if [] rfl rfl rfl rfl rfl (fun hg => by obtain ⟨hg0, _⟩ := hg; subst hg0; (try simp only [List.cons_append, List.nil_append, gvl_nil, gvl_t, gvl_f]); exact v_move rfl) ?_
  refine x_ifb [] rfl rfl rfl rfl rfl (fun hg => by obtain ⟨hg0, _⟩ := hg; subst hg0; (try simp only [List.cons_append, List.nil_append, gvl_nil, gvl_t, gvl_f]); exact v_seql rfl rfl) ?_
  intro b16 hb16
  refine x_bool rfl rfl rfl (v_and rfl rfl) ?_
  intro b17 hb17
  refine x_val rfl rfl rfl (v_assign rfl) ?_
  refine x_end ?_
  refine t_norm ?_
  refine w_ret ?_
  refine ret1 rfl rfl (fun w' hm => ⟨?_, hm.base (by simp)⟩)
  simp [hb17, hb16, hb9, pre]
theorem c54 (s p : ByteArray) (w : World) :
    Calls Try.prog 54 #[.string s, .string p] w fun e w' => e = .returned (.bool (pre s p)) ∧ Later w w' := by
  refine enter (vs := [.string s, .string p]) Try.func54 rfl Try.ntmps54 rfl ?_
  refine w_seq ?_
  refine rg_text ?_
  refine x_val rfl rfl rfl (v_assign rfl) ?_
  refine x_end ?_
  refine t_norm ?_
  refine w_seq ?_
  refine rg_text ?_
  refine x_val rfl rfl rfl (v_move rfl) ?_
  refine x_val rfl rfl rfl (v_move rfl) ?_
  refine x_callb rfl rfl rfl Try.func59 (by kernel_rfl) rfl (fun w hw => c59 _ _ w) ?_
  intro b7 hb7
  refine x_val rfl rfl rfl (v_assign rfl) ?_
  refine x_end ?_
  refine t_norm ?_
  refine w_ret ?_
  refine ret1 rfl rfl (fun w' hm => ⟨?_, hm.base (by simp)⟩)
  rw [hb7]
theorem c60 (s p : ByteArray) (w : World) (h1 : p.size = 1) :
    Calls Try.prog 60 #[.string s, .string p] w fun e w' => e = .returned (.int .i64 (firstIdx s (byteAt p 0))) ∧ Later w w' := by
  refine enter (vs := [.string s, .string p]) Try.func60 rfl Try.ntmps60 rfl ?_
  refine w_seq ?_
  refine rg_text ?_
  refine x_val rfl rfl rfl (v_assign rfl) ?_
  refine x_end ?_
  refine t_norm ?_
  refine w_seq ?_
  refine rg_text ?_
  refine x_val rfl rfl rfl (v_move rfl) ?_
  refine x_val rfl rfl rfl (v_len_str Try.underlying9 rfl) ?_
  refine x_val rfl rfl rfl (v_assign rfl) ?_
  refine x_end ?_
  refine t_norm ?_
  refine w_seq ?_
  refine w_block ?_
  refine w_seq ?_
  refine rg_text ?_
  refine x_val rfl rfl rfl (v_move rfl) ?_
  refine x_bool rfl rfl rfl (v_eql rfl rfl) ?_
  intro b18 hb18
  refine x_val rfl rfl rfl (v_move rfl) ?_
  refine x_if [] rfl rfl rfl rfl rfl (fun hg => by obtain ⟨hg0, _⟩ := hg; subst hg0; (try simp only [List.cons_append, List.nil_append, gvl_nil, gvl_t, gvl_f]); exact v_move rfl) ?_
  refine x_if [] rfl rfl rfl rfl rfl (fun hg => by obtain ⟨hg0, _⟩ := hg; subst hg0; (try simp only [List.cons_append, List.nil_append, gvl_nil, gvl_t, gvl_f]); exact v_move rfl) ?_
  refine x_ifb [] rfl rfl rfl rfl rfl (fun hg => by obtain ⟨hg0, _⟩ := hg; subst hg0; (try simp only [List.cons_append, List.nil_append, gvl_nil, gvl_t, gvl_f]); exact v_seql rfl rfl) ?_
  intro b22 hb22
  refine x_bool rfl rfl rfl (v_or rfl rfl) ?_
  intro b23 hb23
  refine x_val rfl rfl rfl (v_assign rfl) ?_
  refine x_end ?_
  refine t_norm ?_
  refine w_cond rfl (fun hc16 => ?_) (fun hc16 => ?_)
  · simp only [hb23, hb22, hb18, decide_eq_true_eq, decide_eq_false_iff_not, Bool.and_eq_true, Bool.or_eq_true, Bool.and_eq_false_iff, Bool.or_eq_false_iff, Bool.not_eq_true', Bool.not_eq_false', ne_eq, Decidable.not_not] at hc16
    have h := hc16.resolve_left (by omega)
    refine w_seq ?_
    refine rg_text ?_
    refine x_val rfl rfl rfl (v_assign rfl) ?_
    refine x_end ?_
    refine t_norm ?_
    refine w_ret ?_
    refine b_ret ?_
    refine t_ret ?_
    refine ret1 rfl rfl (fun w' hm => ⟨?_, hm.base (by simp)⟩)
    subst h; rw [firstIdx_one h1]
  · simp only [hb23, hb22, hb18, decide_eq_true_eq, decide_eq_false_iff_not, Bool.and_eq_true, Bool.or_eq_true, Bool.and_eq_false_iff, Bool.or_eq_false_iff, Bool.not_eq_true', Bool.not_eq_false', ne_eq, Decidable.not_not] at hc16
    refine w_seq ?_
    refine rg_text ?_
    refine x_val rfl rfl rfl (v_move rfl) ?_
    refine x_bool rfl rfl rfl (v_eql rfl rfl) ?_
    intro b26 hb26
    refine x_val rfl rfl rfl (v_assign rfl) ?_
    refine x_end ?_
    refine t_norm ?_
    refine w_cond rfl (fun hc24 => ?_) (fun hc24 => ?_)
    · simp only [hb26, decide_eq_true_eq, decide_eq_false_iff_not, Bool.and_eq_true, Bool.or_eq_true, Bool.and_eq_false_iff, Bool.or_eq_false_iff, Bool.not_eq_true', Bool.not_eq_false', ne_eq, Decidable.not_not] at hc24
      refine w_seq ?_
      refine rg_text ?_
      refine x_val rfl rfl rfl (v_move rfl) ?_
      refine x_val rfl rfl rfl (v_move rfl) ?_
      refine x_val rfl rfl rfl (v_index (j := 0) Try.underlying9 rfl rfl (by first | omega | (dsimp only; omega))) ?_
      refine x_callv rfl rfl rfl Try.func58 (by kernel_rfl) rfl (fun w hw => c58 _ _ w) ?_
      refine x_val rfl rfl rfl (v_assign rfl) ?_
      refine x_end ?_
      refine t_norm ?_
      refine w_ret ?_
      refine b_ret ?_
      refine t_ret ?_
      refine ret1 rfl rfl (fun w' hm => ⟨?_, hm.base (by simp)⟩)
      rfl
    · simp only [hb26, decide_eq_true_eq, decide_eq_false_iff_not, Bool.and_eq_true, Bool.or_eq_true, Bool.and_eq_false_iff, Bool.or_eq_false_iff, Bool.not_eq_true', Bool.not_eq_false', ne_eq, Decidable.not_not] at hc24
      omega
theorem c56 (s p : ByteArray) (w : World) (h1 : p.size = 1) :
    Calls Try.prog 56 #[.string s, .string p] w fun e w' => e = .returned (.int .i64 (firstIdx s (byteAt p 0))) ∧ Later w w' := by
  refine enter (vs := [.string s, .string p]) Try.func56 rfl Try.ntmps56 rfl ?_
  refine w_seq ?_
  refine rg_text ?_
  refine x_val rfl rfl rfl (v_assign rfl) ?_
  refine x_end ?_
  refine t_norm ?_
  refine w_seq ?_
  refine rg_text ?_
  refine x_val rfl rfl rfl (v_move rfl) ?_
  refine x_val rfl rfl rfl (v_move rfl) ?_
  refine x_callv rfl rfl rfl Try.func60 (by kernel_rfl) rfl (fun w hw => c60 _ _ w h1) ?_
  refine x_val rfl rfl rfl (v_assign rfl) ?_
  refine x_end ?_
  refine t_norm ?_
  refine w_ret ?_
  refine ret1 rfl rfl (fun w' hm => ⟨?_, hm.base (by simp)⟩)
  rfl
theorem c46 (s p : ByteArray) (w : World) (h1 : p.size = 1) :
    Calls Try.prog 46 #[.string s, .string p] w fun e w' => e = .returned (.bool (hasB s (byteAt p 0))) ∧ Later w w' := by
  refine enter (vs := [.string s, .string p]) Try.func46 rfl Try.ntmps46 rfl ?_
  refine w_seq ?_
  refine rg_text ?_
  refine x_val rfl rfl rfl (v_assign rfl) ?_
  refine x_end ?_
  refine t_norm ?_
  refine w_seq ?_
  refine rg_text ?_
  refine x_val rfl rfl rfl (v_move rfl) ?_
  refine x_val rfl rfl rfl (v_move rfl) ?_
  refine x_callv rfl rfl rfl Try.func56 (by kernel_rfl) rfl (fun w hw => c56 _ _ w h1) ?_
  refine x_bool rfl rfl rfl (v_geq rfl rfl) ?_
  intro b8 hb8
  refine x_val rfl rfl rfl (v_assign rfl) ?_
  refine x_end ?_
  refine t_norm ?_
  refine w_ret ?_
  refine ret1 rfl rfl (fun w' hm => ⟨?_, hm.base (by simp)⟩)
  rw [hb8, Bool.eq_iff_iff.2 (decide_eq_true_iff.trans (firstIdx_nn s (byteAt p 0)))]
theorem c28 (a m : Int) (w : World) (h0 : 0 < m) (h1 : m ≤ 4611686018427387904) (h2 : -9223372036854775808 ≤ a) (h3 : a ≤ 9223372036854775807) :
    Calls Try.prog 28 #[.int .i64 a, .int .i64 m] w fun e w' => e = .returned (.int .i64 (a % m)) ∧ Later w w' := by
  have e1 := tmod_bd a m h0
  have e2 := tmod_mod a m h0
  refine enter (vs := [.int .i64 a, .int .i64 m]) Try.func28 rfl Try.ntmps28 rfl ?_
  refine w_seq ?_
  refine rg_text ?_
  refine x_val rfl rfl rfl (v_assign rfl) ?_
  refine x_end ?_
  refine t_norm ?_
  refine w_seq ?_
  refine rg_text ?_
  refine x_val rfl rfl rfl (v_move rfl) ?_
  refine x_val rfl rfl rfl (v_move rfl) ?_
  refine x_val rfl rfl rfl (v_rem rfl rfl (by omega)) ?_
  refine x_val rfl rfl rfl (v_move rfl) ?_
  refine x_val rfl rfl rfl (v_addi rfl rfl rfl (by first | omega | (dsimp only; omega))) ?_
  refine x_val rfl rfl rfl (v_move rfl) ?_
  refine x_val rfl rfl rfl (v_rem rfl rfl (by omega)) ?_
  refine x_val rfl rfl rfl (v_assign rfl) ?_
  refine x_end ?_
  refine t_norm ?_
  refine w_ret ?_
  refine ret1 rfl rfl (fun w' hm => ⟨?_, hm.base (by simp)⟩)
  rw [e2]
theorem c38 (f : Fl) (A : Option Addr) (n c : Nat) (w : World) :
    Calls Try.prog 38 #[.agg #[.string f.tag, .string f.ind, .string f.data, .slice A n c]] w fun e w' => e = .returned (.bool (ctl f.tag)) ∧ Later w w' := by
  refine enter (vs := [.agg #[.string f.tag, .string f.ind, .string f.data, .slice A n c]]) Try.func38 rfl Try.ntmps38 rfl ?_
  refine w_seq ?_
  refine rg_text ?_
  refine x_box rfl rfl rfl rfl ?_
  intro p1
  refine x_val rfl rfl rfl (v_assign rfl) ?_
  refine x_end ?_
  refine t_norm ?_
  refine w_seq ?_
  refine rg_text ?_
  refine x_val rfl rfl rfl (v_fieldAddr (off' := 0) Try.underlying46 rfl sz9 (by decide) rfl rfl) ?_
  refine x_val rfl rfl rfl (v_load Try.underlying9 rfl rfl (by first | exact at_ownL (.head _) rfl | exact at_ownL (.tail _ (.head _)) rfl | exact at_ownL (.tail _ (.tail _ (.head _))) rfl | (apply at_ownL; ((repeat (first | exact List.Mem.head _ | apply List.Mem.tail | apply List.mem_append_right))); rfl) | (refine at_ro (by first | exact .head _ | exact .tail _ (.head _) | exact .tail _ (.tail _ (.head _)) | simp) ?_ (by assumption); trivial))) ?_
  refine x_callb rfl rfl rfl Try.func54 (by kernel_rfl) rfl (fun w hw => c54 _ _ w) ?_
  intro b5 hb5
  refine x_val rfl rfl rfl (v_assign rfl) ?_
  refine x_end ?_
  refine t_norm ?_
  refine w_ret ?_
  refine ret1 rfl rfl (fun w' hm => ⟨?_, hm.base (by simp)⟩)
  rw [hb5]; rfl
theorem c40 (s : ByteArray) (c : UInt8) (w : World) (hs : okS s) :
    Calls Try.prog 40 #[.string s, .int .u8 c.toNat] w fun e w' => e = .returned (.bool (hasB s c)) ∧ Later w w' := by
  unfold okS at hs
  refine enter (vs := [.string s, .int .u8 c.toNat]) Try.func40 rfl Try.ntmps40 rfl ?_
  refine w_seq ?_
  refine rg_text ?_
  refine x_val rfl rfl rfl (v_assign rfl) ?_
  refine x_end ?_
  refine t_norm ?_
  refine w_seq ?_
  refine w_seq ?_
  refine rg_text ?_
  refine x_val rfl rfl rfl (v_assign rfl) ?_
  refine x_end ?_
  refine t_norm ?_
  refine w_block ?_
  refine w_loop (σ := Nat) (fun k => k ≤ s.size ∧ ∀ j, j < k → byteAt s j ≠ c) (fun k => [(0, .string s), (1, .int .u8 c.toNat), (5, .int .i64 k)]) (fun k => []) (fun k => [(w, fun _ => True)]) (fun k => s.size - k) (0) (⟨by omega, by intros; omega⟩) (l_start (by repeat (first | exact Sub.nil | refine Sub.cons rfl ?_)) (fun _ h => h)) ?_
  rintro k ⟨hk, hno⟩
  refine w_seq ?_
  refine w_seq ?_
  refine rg_text ?_
  refine x_val rfl rfl rfl (v_move rfl) ?_
  refine x_val rfl rfl rfl (v_move rfl) ?_
  refine x_val rfl rfl rfl (v_len_str Try.underlying9 rfl) ?_
  refine x_bool rfl rfl rfl (v_lss rfl rfl) ?_
  intro b9 hb9
  refine x_end ?_
  refine t_norm ?_
  refine w_cond rfl (fun hc9 => ?_) (fun hc9 => ?_)
  · simp only [hb9, decide_eq_true_eq, decide_eq_false_iff_not, Bool.and_eq_true, Bool.or_eq_true, Bool.and_eq_false_iff, Bool.or_eq_false_iff, Bool.not_eq_true', Bool.not_eq_false', ne_eq, Decidable.not_not] at hc9
    refine w_skip ?_
    refine t_norm ?_
    refine w_seq ?_
    refine w_block ?_
    refine w_seq ?_
    refine rg_text ?_
    refine x_val rfl rfl rfl (v_move rfl) ?_
    refine x_val rfl rfl rfl (v_move rfl) ?_
    refine x_val rfl rfl rfl (v_index Try.underlying9 rfl rfl (by first | omega | (dsimp only; omega))) ?_
    refine x_val rfl rfl rfl (v_move rfl) ?_
    refine x_bool rfl rfl rfl (v_eql rfl rfl) ?_
    intro b16 hb16
    refine x_end ?_
    refine t_norm ?_
    refine w_cond rfl (fun hc16 => ?_) (fun hc16 => ?_)
    · simp only [hb16, decide_eq_true_eq, decide_eq_false_iff_not, Bool.and_eq_true, Bool.or_eq_true, Bool.and_eq_false_iff, Bool.or_eq_false_iff, Bool.not_eq_true', Bool.not_eq_false', ne_eq, Decidable.not_not] at hc16
      have hc := u8_eq hc16
      refine w_seq ?_
      refine rg_text ?_
      refine x_val rfl rfl rfl (v_assign rfl) ?_
      refine x_end ?_
      refine t_norm ?_
      refine w_ret ?_
      refine b_ret ?_
      refine t_ret ?_
      refine t_ret ?_
      refine b_ret ?_
      refine t_ret ?_
      refine ret1 rfl rfl (fun w' hm => ⟨?_, hm.base (by simp)⟩)
      rw [show hasB s c = true from decide_eq_true ⟨k, by omega, hc⟩]
    · simp only [hb16, decide_eq_true_eq, decide_eq_false_iff_not, Bool.and_eq_true, Bool.or_eq_true, Bool.and_eq_false_iff, Bool.or_eq_false_iff, Bool.not_eq_true', Bool.not_eq_false', ne_eq, Decidable.not_not] at hc16
      have hc := u8_ne hc16
      refine w_skip ?_
      refine b_norm ?_
      refine t_norm ?_
      refine rg_text ?_
      refine x_val rfl rfl rfl (v_move rfl) ?_
      refine x_val rfl rfl rfl (v_addi rfl rfl rfl (by first | omega | (dsimp only; omega))) ?_
      refine x_val rfl rfl rfl (v_assign rfl) ?_
      refine x_end ?_
      exact l_norm (k+1) (⟨by omega, fun j hj => by rcases Nat.lt_succ_iff_lt_or_eq.1 hj with h | rfl; exact hno j h; exact hc⟩) (by omega) (by repeat (first | exact Sub.nil | refine Sub.cons rfl ?_)) (fun _ h => h)
  · simp only [hb9, decide_eq_true_eq, decide_eq_false_iff_not, Bool.and_eq_true, Bool.or_eq_true, Bool.and_eq_false_iff, Bool.or_eq_false_iff, Bool.not_eq_true', Bool.not_eq_false', ne_eq, Decidable.not_not] at hc9
    refine w_exit ?_
    refine t_exit ?_
    refine t_exit ?_
    refine b_hit ?_
    refine t_norm ?_
    refine w_seq ?_
    refine rg_text ?_
    refine x_val rfl rfl rfl (v_assign rfl) ?_
    refine x_end ?_
    refine t_norm ?_
    refine w_ret ?_
    refine ret1 rfl rfl (fun w' hm => ⟨?_, hm.base (by simp)⟩)
    rw [show hasB s c = false from decide_eq_false (fun ⟨j, hj, h⟩ => hno j (by omega) h)]

end Go.Proofs.Ytmihkbciilloaaa
