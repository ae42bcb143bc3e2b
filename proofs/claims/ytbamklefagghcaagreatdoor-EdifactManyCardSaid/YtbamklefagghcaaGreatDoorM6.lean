/- Of the proofs of YtbamklefagghcaaGreatDoor: Xe Xf Xg Xh Xi Xj Xk Xn Xx Xy, put together. -/
import Derived.Test.YtbamklefagghcaaGreatDoorM5
import Derived.Shelf.Strconv.ErrVarAll
import Derived.Lib.AtoiAllCases
import Derived.Test.YtbamklefagghcaaGreatDoorM2
import Derived.Lay
import Derived.LaidSub
import Derived.Lib.LaidTab
import Derived.Stop.LaidErr
import Derived.Deep.DeepHandedRow
import Derived.SevenTiedAt
import Derived.Test.YtbamklefagghcaaGreatDoorM1
import Derived.Test.YtbamklefagghcaaGreatDoorM3
import Derived.Test.YtbamklefagghcaaGreatDoorM4
namespace Go.Proofs.YtbamklefagghcaaGreatDoor
open Go.RowKit Go.PK
set_option linter.unusedVariables false
set_option linter.unusedSimpArgs false
theorem c_Atoi (s : ByteArray) (w : World) (hs : s.size ≤ 281474976710656) (hL : LD w) :
    Calls Tryz.prog 62 #[.string s] w fun e w' => ∃ n ev b, e = .returned (.tuple #[.int .i64 n, ev]) ∧ Later w w' ∧ isIface ev b ∧ (b = false → Lib.atoiAll (bl s) = .ok n) ∧ (b = true → ∀ v, Lib.atoiAll (bl s) ≠ .ok v) := by
  obtain ⟨_, _, ⟨tp, p, h1⟩, ⟨tp2, p2, h2⟩⟩ := hL
  rcases hq : Lib.atoiAll s.data.toList with v | _ | _
  · refine (Tryz.strconv_Atoi_ok s (by omega) v hq w).mono fun e w' ⟨h3, h4⟩ => ⟨v, .nilIface, false, h3, ?_, .inl ⟨rfl, rfl⟩, fun _ => hq, fun h => by cases h⟩
    rcases h4 with rfl | ⟨t, rfl⟩
    · exact Later.refl _
    · exact Lib.bytesWorld_below w _ t
  · exact (Any.strconv_Atoi_syntax_var Tryz.laysC172 s hs hq tp p w h1).mono fun e w' ⟨N, h3, _, _, h4⟩ => ⟨_, _, true, h3, h4, .inr ⟨⟨_, _, rfl⟩, rfl⟩, (fun h => by cases h), (fun _ v h => by rw [show bl s = s.data.toList from rfl, hq] at h; cases h)⟩
  · exact (Tryz.strconv_Atoi_range_var s hs hq tp2 p2 w h2).mono fun e w' ⟨N, h3, _, _, h4⟩ => ⟨_, _, true, h3, h4, .inr ⟨⟨_, _, rfl⟩, rfl⟩, (fun h => by cases h), (fun _ v h => by rw [show bl s = s.data.toList from rfl, hq] at h; cases h)⟩
theorem c_Cut (s : ByteArray) (w : World) (hs : s.size ≤ 2000000000) (hL : LD w) :
    Calls Tryz.prog 63 #[.string s, .string ⟨#[46]⟩] w fun e w' => e = .returned (.tuple #[.string (cutD s).1, .string (cutD s).2.1, .bool (cutD s).2.2]) ∧ Later w w' := by
  obtain ⟨_, ⟨m, hm⟩, _⟩ := hL
  refine (Tryz.strings_Cut s ⟨#[46]⟩ m w (by omega) hm).mono fun e w' ⟨h1, n, h2⟩ => ⟨h1, ?_⟩
  rw [h2]; exact ⟨rfl, rfl, rfl, Nat.le_refl _, fun _ _ => rfl⟩
theorem readP_in (s : ByteArray) : in64 (readP s) := by
  unfold readP
  split
  · rename_i v h
    split
    · exact Lib.atoiAll_bounds h
    · unfold in64; decide
  · unfold in64; decide
theorem cutD_sz (s : ByteArray) : (cutD s).1.size ≤ s.size ∧ (cutD s).2.1.size ≤ s.size := by
  have e : s.size = (bl s).length := (bl_len s).symm
  unfold cutD Lib.cut
  split
  · constructor
    · show (List.toArray _).size ≤ _; rw [List.size_toArray, e]; exact List.length_take_le' _ _
    · show (List.toArray _).size ≤ _; rw [List.size_toArray, e, List.length_drop]; omega
  · constructor
    · show (List.toArray _).size ≤ _; rw [List.size_toArray, e]; exact Nat.le_refl _
    · exact Nat.zero_le _
def bigO (l : List Seg) : Prop := ∀ x ∈ l, ∀ y ∈ x.els, ∀ s ∈ y, s.size ≤ 2000000000
theorem txt_sz {l : List Seg} (h : bigO l) (n e c : Nat) : (txt l n e c).size ≤ 2000000000 := by
  unfold txt
  by_cases hin : n < l.length ∧ e < (segD l n).els.length ∧ c < (elsD (segD l n).els e).length
  · obtain ⟨k1, k2, k3⟩ := hin
    rw [txO_in k1 k2 k3]
    refine h (segD l n) ?_ (elsD (segD l n).els e) ?_ _ (List.getElem_mem k3)
    · unfold segD; rw [getD_at k1]; exact List.getElem_mem k1
    · unfold elsD; rw [getD_at k2]; exact List.getElem_mem k2
  · rw [txO_out hin]; exact Nat.zero_le _
set_option maxRecDepth 100000 in
theorem c_read (s : ByteArray) (w : World) (hs : s.size ≤ 281474976710656) (hL : LD w) :
    Calls Tryz.prog 39 #[.string s] w fun e w' => e = .returned (.int .i64 (readP s)) ∧ Later w w' := by
  refine enter (vs := [.string s]) Tryz.func39 rfl Tryz.ntmps39 rfl ?_
  refine w_seq ?_
  refine rg_text ?_
  refine x_val rfl rfl rfl (v_assign rfl) ?_
  refine x_end ?_
  refine t_norm ?_
  refine w_seq ?_
  refine rg_text ?_
  refine x_val rfl rfl rfl (v_move rfl) ?_
  refine x_call (R := fun v wa wb => ∃ n ev b, v = .tuple #[.int .i64 n, ev] ∧ isIface ev b ∧ (b = false → Lib.atoiAll (bl s) = .ok n) ∧ (b = true → ∀ v, Lib.atoiAll (bl s) ≠ .ok v)) rfl rfl rfl Tryz.func62 (by kernel_rfl) rfl (fun w1 hw1 => (c_Atoi s w1 hs (hL.later (hw1.base (by simp)))).mono fun e w2 ⟨n, ev, b, h1, h2, h3⟩ => ⟨_, h1, h2, n, ev, b, rfl, h3⟩) ?_
  intro v7 wa7 wb7 hm7 hl7 hR7
  obtain ⟨n, ev, b0, rfl, hi11, h1, h2⟩ := hR7
  refine x_val rfl rfl rfl (v_move rfl) ?_
  refine x_val rfl rfl rfl (v_extract rfl rfl) ?_
  refine x_val rfl rfl rfl (v_extract rfl rfl) ?_
  refine x_val rfl rfl rfl (v_assign rfl) ?_
  refine x_val rfl rfl rfl (v_assign rfl) ?_
  refine x_end ?_
  refine t_norm ?_
  refine w_seq ?_
  refine w_seq ?_
  refine rg_text ?_
  refine x_val rfl rfl rfl (v_move rfl) ?_
  refine x_bool rfl rfl rfl (v_ine Tryz.underlying84 rfl rfl hi11) ?_
  intro b11 hb11
  refine x_val rfl rfl rfl (v_move rfl) ?_
  refine x_if [] rfl rfl rfl rfl rfl (fun hg => by obtain ⟨hg0, _⟩ := hg; subst hg0; (try simp only [List.cons_append, List.nil_append, gvl_nil, gvl_t, gvl_f]); exact v_move rfl) ?_
  refine x_if [] rfl rfl rfl rfl rfl (fun hg => by obtain ⟨hg0, _⟩ := hg; subst hg0; (try simp only [List.cons_append, List.nil_append, gvl_nil, gvl_t, gvl_f]); exact v_len_str Tryz.underlying9 rfl) ?_
  refine x_ifb [] rfl rfl rfl rfl rfl (fun hg => by obtain ⟨hg0, _⟩ := hg; subst hg0; (try simp only [List.cons_append, List.nil_append, gvl_nil, gvl_t, gvl_f]); exact v_gtr rfl rfl) ?_
  intro b15 hb15
  refine x_bool rfl rfl rfl (v_or rfl rfl) ?_
  intro b16 hb16
  refine x_end ?_
  refine t_norm ?_
  refine w_cond rfl (fun hc16 => ?_) (fun hc16 => ?_)
  · have hneg : readP s = -1 := by
      unfold readP
      split
      · rename_i v hv
        rw [if_neg (fun h18 => ?_)]
        rw [hb16, hb15] at hc16
        rcases Bool.or_eq_true _ _ ▸ hc16 with h | h
        · exact h2 (hb11.symm.trans h) v hv
        · have := of_decide_eq_true h; omega
      · rfl
    refine w_seq ?_
    refine rg_text ?_
    refine x_val rfl rfl rfl (v_assign rfl) ?_
    refine x_end ?_
    refine t_norm ?_
    refine w_ret ?_
    refine t_ret ?_
    refine ret1 rfl rfl (fun w' hm => ⟨?_, hm.base (by simp)⟩)
    rw [hneg]
  · have hyes : readP s = n := by
      rw [hb16, hb15] at hc16
      obtain ⟨k1, k2⟩ := Bool.or_eq_false_iff.1 hc16
      have k3 := of_decide_eq_false k2
      unfold readP
      rw [h1 (hb11.symm.trans k1)]
      dsimp only
      rw [if_pos (by omega)]
    refine w_skip ?_
    refine t_norm ?_
    refine w_seq ?_
    refine rg_text ?_
    refine x_val rfl rfl rfl (v_move rfl) ?_
    refine x_val rfl rfl rfl (v_assign rfl) ?_
    refine x_end ?_
    refine t_norm ?_
    refine w_ret ?_
    refine ret1 rfl rfl (fun w' hm => ⟨?_, hm.base (by simp)⟩)
    rw [hyes]; rfl
set_option maxRecDepth 100000 in
theorem c_erec (s : ByteArray) (w : World) (hs : s.size ≤ 2000000000) (hL : LD w) :
    Calls Tryz.prog 41 #[.string s] w fun e w' => e = .returned (.agg #[.int .i64 (recS s).1, .int .i64 (recS s).2]) ∧ Later w w' := by
  refine enter (vs := [.string s]) Tryz.func41 rfl Tryz.ntmps41 rfl ?_
  refine w_seq ?_
  refine rg_text ?_
  refine x_alloc rfl rfl rfl zr23 ?_
  intro p2
  refine x_end ?_
  refine t_norm ?_
  refine w_seq ?_
  refine rg_text ?_
  refine x_val rfl rfl rfl (v_move rfl) ?_
  refine x_callv rfl rfl rfl Tryz.func63 (by kernel_rfl) rfl (fun w1 hw1 => c_Cut s w1 hs (hL.later (hw1.base (by simp)))) ?_
  refine x_val rfl rfl rfl (v_move rfl) ?_
  refine x_val rfl rfl rfl (v_extract rfl rfl) ?_
  refine x_val rfl rfl rfl (v_extract rfl rfl) ?_
  refine x_bool rfl rfl rfl (v_extract rfl rfl) ?_
  intro b11 hb11
  refine x_val rfl rfl rfl (v_assign rfl) ?_
  refine x_val rfl rfl rfl (v_assign rfl) ?_
  refine x_val rfl rfl rfl (v_assign rfl) ?_
  refine x_end ?_
  refine t_norm ?_
  refine w_seq ?_
  refine rg_text ?_
  refine x_val rfl rfl rfl (v_move rfl) ?_
  refine x_callv rfl rfl rfl Tryz.func39 (by kernel_rfl) rfl (fun w1 hw1 => c_read (cutD s).1 w1 (by have := (cutD_sz s).1; omega) (hL.later (hw1.base (by simp)))) ?_
  refine x_val rfl rfl rfl (v_move rfl) ?_
  refine x_callv rfl rfl rfl Tryz.func39 (by kernel_rfl) rfl (fun w1 hw1 => c_read (cutD s).2.1 w1 (by have := (cutD_sz s).2; omega) (hL.later (hw1.base (by simp)))) ?_
  refine x_val rfl rfl rfl (v_buildL (places := [(0, 1), (1, 1)]) Tryz.underlying23 zr23 (by kernel_rfl) rfl rfl) ?_
  refine x_store0 [] rfl rfl rfl rfl sz23 rfl rfl ?_
  refine x_end ?_
  refine t_norm ?_
  refine w_ret ?_
  refine retc (cs := #[.int .i64 (recS s).1, .int .i64 (recS s).2]) rfl rfl (.head _) Tryz.underlying23 rfl sz23 (fun w' hm => ⟨rfl, hm.base (by simp)⟩)
set_option maxRecDepth 100000 in
theorem c_SEq {u v : Value} {xs ys : List ByteArray} {D1 D2 : Nat → Prop} (w : World) (h1s : sliceRd tyStr D1 w u xs) (h2s : sliceRd tyStr D2 w v ys) :
    Calls Tryz.prog 67 #[u, v] w fun e w' => e = .returned (.bool (decide (xs = ys))) ∧ Later w w' := by
  obtain ⟨A1, c1, rfl, hl1, hm1, _⟩ := id h1s
  obtain ⟨A2, c2, rfl, hl2, hm2, _⟩ := id h2s
  refine enter (vs := [.slice A1 xs.length c1, .slice A2 ys.length c2]) Tryz.func67 rfl Tryz.ntmps67 rfl ?_
  refine w_seq ?_
  refine rg_text ?_
  refine x_val rfl rfl rfl (v_assign rfl) ?_
  refine x_end ?_
  refine t_norm ?_
  refine w_seq ?_
  refine w_seq ?_
  refine rg_text ?_
  refine x_val rfl rfl rfl (v_move rfl) ?_
  refine x_val rfl rfl rfl (v_len_slice Tryz.underlying54 rfl) ?_
  refine x_val rfl rfl rfl (v_move rfl) ?_
  refine x_val rfl rfl rfl (v_len_slice Tryz.underlying54 rfl) ?_
  refine x_bool rfl rfl rfl (v_neq rfl rfl) ?_
  intro b10 hb10
  refine x_end ?_
  refine t_norm ?_
  refine w_cond rfl (fun hc10 => ?_) (fun hc10 => ?_)
  · simp only [hb10, decide_eq_true_eq, decide_eq_false_iff_not, Bool.and_eq_true, Bool.or_eq_true, Bool.and_eq_false_iff, Bool.or_eq_false_iff, Bool.not_eq_true', Bool.not_eq_false', ne_eq, Decidable.not_not] at hc10
    have hne : xs ≠ ys := fun h => by rw [h] at hc10; exact hc10 rfl
    refine w_seq ?_
    refine rg_text ?_
    refine x_val rfl rfl rfl (v_assign rfl) ?_
    refine x_end ?_
    refine t_norm ?_
    refine w_ret ?_
    refine t_ret ?_
    refine ret1 rfl rfl (fun w' hm => ⟨?_, hm.base (by simp)⟩)
    rw [decide_eq_false (hne)]
  · simp only [hb10, decide_eq_true_eq, decide_eq_false_iff_not, Bool.and_eq_true, Bool.or_eq_true, Bool.and_eq_false_iff, Bool.or_eq_false_iff, Bool.not_eq_true', Bool.not_eq_false', ne_eq, Decidable.not_not] at hc10
    have hlen : xs.length = ys.length := by omega
    refine w_skip ?_
    refine t_norm ?_
    refine w_seq ?_
    refine w_seq ?_
    refine rg_text ?_
    refine x_val rfl rfl rfl (v_move rfl) ?_
    refine x_val rfl rfl rfl (v_len_slice Tryz.underlying54 rfl) ?_
    refine x_val rfl rfl rfl (v_move rfl) ?_
    refine x_end ?_
    refine t_norm ?_
    refine w_block ?_
    refine w_loop (σ := Nat) (fun x => x ≤ xs.length ∧ xs.take x = ys.take x) (fun x => [(0, Value.slice A1 xs.length c1), (1, Value.slice A2 ys.length c2), (11, Value.slice A1 xs.length c1), (12, Value.int .i64 (xs.length : Nat)), (13, Value.int .i64 (x : Nat))]) (fun x => []) (fun x => [(w, fun _ => True)]) (fun x => xs.length - x) (0) (⟨Nat.zero_le _, rfl⟩) (l_start (by repeat (first | exact Sub.nil | refine Sub.cons rfl ?_)) (fun _ h => h)) ?_
    rintro k ⟨hk, ht⟩
    refine w_state ([(0, Value.slice A1 xs.length c1), (1, Value.slice A2 ys.length c2), (11, Value.slice A1 xs.length c1), (12, Value.int .i64 (xs.length : Nat)), (13, Value.int .i64 (k : Nat))]) ([]) ([(w, fun _ => True)]) ?_
    refine w_seq ?_
    refine rg_text ?_
    refine x_bool rfl rfl rfl (v_lss rfl rfl) ?_
    intro b14 hb14
    refine x_end ?_
    refine t_norm ?_
    refine w_seq ?_
    refine w_cond rfl (fun hc14 => ?_) (fun hc14 => ?_)
    · simp only [hb14, decide_eq_true_eq, decide_eq_false_iff_not, Bool.and_eq_true, Bool.or_eq_true, Bool.and_eq_false_iff, Bool.or_eq_false_iff, Bool.not_eq_true', Bool.not_eq_false', ne_eq, Decidable.not_not] at hc14
      have h1 : k < xs.length := by omega
      have h2 : k < ys.length := by omega
      obtain ⟨b1, o1, hA1, _, t1, _⟩ := s_at h1s h1
      obtain ⟨b2, o2, hA2, _, t2, _⟩ := s_at h2s h2
      refine w_skip ?_
      refine t_norm ?_
      refine w_seq ?_
      refine w_block ?_
      refine w_seq ?_
      refine rg_text ?_
      refine x_val rfl rfl rfl (v_move rfl) ?_
      refine x_val rfl rfl rfl (v_assign rfl) ?_
      refine x_end ?_
      refine t_norm ?_
      refine w_seq ?_
      refine rg_draw 9 [(true, 0), (true, 1), (true, 2), (true, 3), (true, 4), (true, 5), (true, 6), (true, 7), (true, 8)] (by kernel_rfl) (by kernel_rfl) ?_
      refine x_val rfl rfl rfl (v_move rfl) ?_
      refine x_val rfl rfl rfl (v_move rfl) ?_
      refine x_val rfl rfl rfl (v_indexAddr Tryz.underlying54 sz9 (congrArg (fun A => some (Value.slice A xs.length c1)) hA1) rfl (by first | omega | (dsimp only; omega)) rfl) ?_
      refine x_val rfl rfl rfl (v_load Tryz.underlying9 rfl rfl (at_ro (.head _) trivial (by rw [Nat.mul_one]; exact t1))) ?_
      refine x_val rfl rfl rfl (v_move rfl) ?_
      refine x_val rfl rfl rfl (v_move rfl) ?_
      refine x_val rfl rfl rfl (v_indexAddr Tryz.underlying54 sz9 (congrArg (fun A => some (Value.slice A ys.length c2)) hA2) rfl (by first | omega | (dsimp only; omega)) rfl) ?_
      refine x_val rfl rfl rfl (v_load Tryz.underlying9 rfl rfl (at_ro (.head _) trivial (by rw [Nat.mul_one]; exact t2))) ?_
      refine x_bool rfl rfl rfl (v_sneq rfl rfl) ?_
      intro b24 hb24
      refine x_end ?_
      refine t_norm ?_
      refine w_cond rfl (fun hc24 => ?_) (fun hc24 => ?_)
      · simp only [hb24, decide_eq_true_eq, decide_eq_false_iff_not, Bool.and_eq_true, Bool.or_eq_true, Bool.and_eq_false_iff, Bool.or_eq_false_iff, Bool.not_eq_true', Bool.not_eq_false', ne_eq, Decidable.not_not] at hc24
        have hne : xs ≠ ys := ne_at h1 h2 hc24
        refine w_seq ?_
        refine rg_text ?_
        refine x_val rfl rfl rfl (v_assign rfl) ?_
        refine x_end ?_
        refine t_norm ?_
        refine w_ret ?_
        refine b_ret ?_
        refine t_ret ?_
        refine t_ret ?_
        refine b_ret ?_
        refine t_ret ?_
        refine ret1 rfl rfl (fun w' hm => ⟨?_, hm.base (by simp)⟩)
        rw [decide_eq_false (hne)]
      · simp only [hb24, decide_eq_true_eq, decide_eq_false_iff_not, Bool.and_eq_true, Bool.or_eq_true, Bool.and_eq_false_iff, Bool.or_eq_false_iff, Bool.not_eq_true', Bool.not_eq_false', ne_eq, Decidable.not_not] at hc24
        refine w_skip ?_
        refine b_norm ?_
        refine t_norm ?_
        refine rg_text ?_
        refine x_val rfl rfl rfl (v_addi rfl rfl rfl (by first | omega | (dsimp only; omega))) ?_
        refine x_val rfl rfl rfl (v_move rfl) ?_
        refine x_end ?_
        exact l_norm (k + 1) ⟨by omega, take_eq_succ h1 h2 ht hc24⟩ (by omega) (by repeat (first | exact Sub.nil | refine Sub.cons rfl ?_)) (fun _ h => h)
    · simp only [hb14, decide_eq_true_eq, decide_eq_false_iff_not, Bool.and_eq_true, Bool.or_eq_true, Bool.and_eq_false_iff, Bool.or_eq_false_iff, Bool.not_eq_true', Bool.not_eq_false', ne_eq, Decidable.not_not] at hc14
      obtain rfl : k = xs.length := by omega
      refine w_exit ?_
      refine t_exit ?_
      refine t_exit ?_
      refine b_hit ?_
      refine t_norm ?_
      refine w_seq ?_
      refine rg_text ?_
      refine x_val rfl rfl rfl (v_assign rfl) ?_
      refine x_end ?_
      refine t_norm ?_
      refine w_ret ?_
      refine ret1 rfl rfl (fun w' hm => ⟨?_, hm.base (by simp)⟩)
      rw [decide_eq_true (take_all hlen ht)]
set_option maxRecDepth 100000 in
theorem c_EF2 {u v : Value} {xs ys : List (List ByteArray)} {D1 D2 : Nat → Prop} (w : World) (h1s : sliceRd (tySlice tyStr) D1 w u xs) (h2s : sliceRd (tySlice tyStr) D2 w v ys) :
    Calls Tryz.prog 66 #[u, v, .func (.func 67) #[] #[]] w fun e w' => e = .returned (.bool (decide (xs = ys))) ∧ Later w w' := by
  obtain ⟨A1, c1, rfl, hl1, hm1, _⟩ := id h1s
  obtain ⟨A2, c2, rfl, hl2, hm2, _⟩ := id h2s
  refine enter (vs := [.slice A1 xs.length c1, .slice A2 ys.length c2, .func (.func 67) #[] #[]]) Tryz.func66 rfl Tryz.ntmps66 rfl ?_
  refine w_seq ?_
  refine rg_text ?_
  refine x_val rfl rfl rfl (v_assign rfl) ?_
  refine x_end ?_
  refine t_norm ?_
  refine w_seq ?_
  refine w_seq ?_
  refine rg_text ?_
  refine x_val rfl rfl rfl (v_move rfl) ?_
  refine x_val rfl rfl rfl (v_len_slice Tryz.underlying47 rfl) ?_
  refine x_val rfl rfl rfl (v_move rfl) ?_
  refine x_val rfl rfl rfl (v_len_slice Tryz.underlying47 rfl) ?_
  refine x_bool rfl rfl rfl (v_neq rfl rfl) ?_
  intro b14 hb14
  refine x_end ?_
  refine t_norm ?_
  refine w_cond rfl (fun hc14 => ?_) (fun hc14 => ?_)
  · simp only [hb14, decide_eq_true_eq, decide_eq_false_iff_not, Bool.and_eq_true, Bool.or_eq_true, Bool.and_eq_false_iff, Bool.or_eq_false_iff, Bool.not_eq_true', Bool.not_eq_false', ne_eq, Decidable.not_not] at hc14
    have hne : xs ≠ ys := fun h => by rw [h] at hc14; exact hc14 rfl
    refine w_seq ?_
    refine rg_text ?_
    refine x_val rfl rfl rfl (v_assign rfl) ?_
    refine x_end ?_
    refine t_norm ?_
    refine w_ret ?_
    refine t_ret ?_
    refine ret1 rfl rfl (fun w' hm => ⟨?_, hm.base (by simp)⟩)
    rw [decide_eq_false (hne)]
  · simp only [hb14, decide_eq_true_eq, decide_eq_false_iff_not, Bool.and_eq_true, Bool.or_eq_true, Bool.and_eq_false_iff, Bool.or_eq_false_iff, Bool.not_eq_true', Bool.not_eq_false', ne_eq, Decidable.not_not] at hc14
    have hlen : xs.length = ys.length := by omega
    refine w_skip ?_
    refine t_norm ?_
    refine w_seq ?_
    refine w_seq ?_
    refine rg_text ?_
    refine x_val rfl rfl rfl (v_move rfl) ?_
    refine x_val rfl rfl rfl (v_len_slice Tryz.underlying47 rfl) ?_
    refine x_val rfl rfl rfl (v_move rfl) ?_
    refine x_end ?_
    refine t_norm ?_
    refine w_block ?_
    refine w_loop (σ := Nat) (fun x => x ≤ xs.length ∧ xs.take x = ys.take x) (fun x => [(0, Value.slice A1 xs.length c1), (1, Value.slice A2 ys.length c2), (2, Value.func (.func 67) #[] #[]), (15, Value.slice A1 xs.length c1), (16, Value.int .i64 (xs.length : Nat)), (17, Value.int .i64 (x : Nat))]) (fun x => []) (fun x => [(w, fun _ => True)]) (fun x => xs.length - x) (0) (⟨Nat.zero_le _, rfl⟩) (l_start (by repeat (first | exact Sub.nil | refine Sub.cons rfl ?_)) (fun _ h => h)) ?_
    rintro k ⟨hk, ht⟩
    refine w_state ([(0, Value.slice A1 xs.length c1), (1, Value.slice A2 ys.length c2), (2, Value.func (.func 67) #[] #[]), (15, Value.slice A1 xs.length c1), (16, Value.int .i64 (xs.length : Nat)), (17, Value.int .i64 (k : Nat))]) ([]) ([(w, fun _ => True)]) ?_
    refine w_seq ?_
    refine rg_text ?_
    refine x_bool rfl rfl rfl (v_lss rfl rfl) ?_
    intro b18 hb18
    refine x_end ?_
    refine t_norm ?_
    refine w_seq ?_
    refine w_cond rfl (fun hc18 => ?_) (fun hc18 => ?_)
    · simp only [hb18, decide_eq_true_eq, decide_eq_false_iff_not, Bool.and_eq_true, Bool.or_eq_true, Bool.and_eq_false_iff, Bool.or_eq_false_iff, Bool.not_eq_true', Bool.not_eq_false', ne_eq, Decidable.not_not] at hc18
      have h1 : k < xs.length := by omega
      have h2 : k < ys.length := by omega
      obtain ⟨b1, o1, u1, hA1, _, t1, r1⟩ := sl_at h1s h1
      obtain ⟨b2, o2, u2, hA2, _, t2, r2⟩ := sl_at h2s h2
      obtain ⟨B1, d1, rfl, _⟩ := id r1
      obtain ⟨B2, d2, rfl, _⟩ := id r2
      refine w_skip ?_
      refine t_norm ?_
      refine w_seq ?_
      refine w_block ?_
      refine w_seq ?_
      refine rg_text ?_
      refine x_val rfl rfl rfl (v_move rfl) ?_
      refine x_val rfl rfl rfl (v_indexAddr Tryz.underlying47 sz54 (congrArg (fun A => some (Value.slice A xs.length c1)) hA1) rfl (by first | omega | (dsimp only; omega)) rfl) ?_
      refine x_val rfl rfl rfl (v_load Tryz.underlying54 rfl rfl (at_ro (.head _) trivial (by rw [Nat.mul_one]; exact t1))) ?_
      refine x_val rfl rfl rfl (v_assign rfl) ?_
      refine x_val rfl rfl rfl (v_assign rfl) ?_
      refine x_end ?_
      refine t_norm ?_
      refine w_seq ?_
      refine rg_text ?_
      refine x_val rfl rfl rfl (v_move rfl) ?_
      refine x_val rfl rfl rfl (v_move rfl) ?_
      refine x_val rfl rfl rfl (v_indexAddr Tryz.underlying47 sz54 (congrArg (fun A => some (Value.slice A ys.length c2)) hA2) rfl (by first | omega | (dsimp only; omega)) rfl) ?_
      refine x_val rfl rfl rfl (v_load Tryz.underlying54 rfl rfl (at_ro (.head _) trivial (by rw [Nat.mul_one]; exact t2))) ?_
      refine x_val rfl rfl rfl (v_assign rfl) ?_
      refine x_end ?_
      refine t_norm ?_
      refine w_seq ?_
      refine rg_text ?_
      refine x_val rfl rfl rfl (v_move rfl) ?_
      refine x_val rfl rfl rfl (v_move rfl) ?_
      refine x_val rfl rfl rfl (v_move rfl) ?_
      refine x_clb rfl rfl rfl rfl Tryz.func67 (by kernel_rfl) rfl (fun w1 hw1 => by exact calls_clp (c_SEq (xs := xs[k]) (ys := ys[k]) w1 (r1.keep (Kept.later (hw1.base (by simp)))) (r2.keep (Kept.later (hw1.base (by simp)))))) ?_
      intro b29 hb29
      refine x_bool rfl rfl rfl (v_not rfl) ?_
      intro b30 hb30
      refine x_end ?_
      refine t_norm ?_
      refine w_cond rfl (fun hc30 => ?_) (fun hc30 => ?_)
      · have hne : xs ≠ ys := ne_at h1 h2 (fun h => by rw [hb30, hb29, decide_eq_true h] at hc30; cases hc30)
        refine w_seq ?_
        refine rg_text ?_
        refine x_val rfl rfl rfl (v_assign rfl) ?_
        refine x_end ?_
        refine t_norm ?_
        refine w_ret ?_
        refine b_ret ?_
        refine t_ret ?_
        refine t_ret ?_
        refine b_ret ?_
        refine t_ret ?_
        refine ret1 rfl rfl (fun w' hm => ⟨?_, hm.base (by simp)⟩)
        rw [decide_eq_false (hne)]
      · have heq : xs[k] = ys[k] := by
          rw [hb30, hb29] at hc30
          exact of_decide_eq_true (by simpa using hc30)
        refine w_skip ?_
        refine b_norm ?_
        refine t_norm ?_
        refine rg_text ?_
        refine x_val rfl rfl rfl (v_addi rfl rfl rfl (by first | omega | (dsimp only; omega))) ?_
        refine x_val rfl rfl rfl (v_move rfl) ?_
        refine x_end ?_
        exact l_norm (k + 1) ⟨by omega, take_eq_succ h1 h2 ht heq⟩ (by omega) (by repeat (first | exact Sub.nil | refine Sub.cons rfl ?_)) (fun _ h => h)
    · simp only [hb18, decide_eq_true_eq, decide_eq_false_iff_not, Bool.and_eq_true, Bool.or_eq_true, Bool.and_eq_false_iff, Bool.or_eq_false_iff, Bool.not_eq_true', Bool.not_eq_false', ne_eq, Decidable.not_not] at hc18
      obtain rfl : k = xs.length := by omega
      refine w_exit ?_
      refine t_exit ?_
      refine t_exit ?_
      refine b_hit ?_
      refine t_norm ?_
      refine w_seq ?_
      refine rg_text ?_
      refine x_val rfl rfl rfl (v_assign rfl) ?_
      refine x_end ?_
      refine t_norm ?_
      refine w_ret ?_
      refine ret1 rfl rfl (fun w' hm => ⟨?_, hm.base (by simp)⟩)
      rw [decide_eq_true (take_all hlen ht)]
set_option maxRecDepth 100000 in
theorem c_same1 {u v : Value} {x y : Seg} {D1 D2 : Nat → Prop} (w : World) (h1s : sliceRd (tySlice tyStr) D1 w u x.els) (h2s : sliceRd (tySlice tyStr) D2 w v y.els) :
    Calls Tryz.prog 65 #[.agg #[.string x.tag, u], .agg #[.string y.tag, v]] w fun e w' => e = .returned (.bool (decide (x = y))) ∧ Later w w' := by
  refine enter (vs := [.agg #[.string x.tag, u], .agg #[.string y.tag, v]]) Tryz.func65 rfl Tryz.ntmps65 rfl ?_
  refine w_seq ?_
  refine rg_text ?_
  refine x_box rfl rfl rfl rfl ?_
  intro p2
  refine x_box rfl rfl rfl rfl ?_
  intro p3
  refine x_val rfl rfl rfl (v_assign rfl) ?_
  refine x_end ?_
  refine t_norm ?_
  refine w_seq ?_
  refine rg_text ?_
  refine x_val rfl rfl rfl (v_fieldAddr (off' := 0) Tryz.underlying49 rfl sz9 (by decide) rfl rfl) ?_
  refine x_val rfl rfl rfl (v_load Tryz.underlying9 rfl rfl (at_ownL (vs := [Value.string x.tag, u]) (.tail _ (.head _)) rfl)) ?_
  refine x_val rfl rfl rfl (v_fieldAddr (off' := 0) Tryz.underlying49 rfl sz9 (by decide) rfl rfl) ?_
  refine x_val rfl rfl rfl (v_load Tryz.underlying9 rfl rfl (at_ownL (vs := [Value.string y.tag, v]) (.head _) rfl)) ?_
  refine x_bool rfl rfl rfl (v_seql rfl rfl) ?_
  intro b9 hb9
  refine x_val rfl rfl rfl (v_move rfl) ?_
  refine x_if [] rfl rfl rfl rfl rfl (fun hg => by obtain ⟨hg0, _⟩ := hg; subst hg0; (try simp only [List.cons_append, List.nil_append, gvl_nil, gvl_t, gvl_f]); exact v_fieldAddr (off' := 1) Tryz.underlying49 rfl sz47 (by decide) rfl rfl) ?_
  refine x_if [] rfl rfl rfl rfl rfl (fun hg => by obtain ⟨hg0, _⟩ := hg; subst hg0; (try simp only [List.cons_append, List.nil_append, gvl_nil, gvl_t, gvl_f]); exact v_load Tryz.underlying47 rfl rfl (at_ownL (vs := [Value.string x.tag, u]) (.tail _ (.head _)) rfl)) ?_
  refine x_if [] rfl rfl rfl rfl rfl (fun hg => by obtain ⟨hg0, _⟩ := hg; subst hg0; (try simp only [List.cons_append, List.nil_append, gvl_nil, gvl_t, gvl_f]); exact v_fieldAddr (off' := 1) Tryz.underlying49 rfl sz47 (by decide) rfl rfl) ?_
  refine x_if [] rfl rfl rfl rfl rfl (fun hg => by obtain ⟨hg0, _⟩ := hg; subst hg0; (try simp only [List.cons_append, List.nil_append, gvl_nil, gvl_t, gvl_f]); exact v_load Tryz.underlying47 rfl rfl (at_ownL (vs := [Value.string y.tag, v]) (.head _) rfl)) ?_
  refine x_call_ifb [] rfl rfl rfl rfl rfl Tryz.func66 (by kernel_rfl) (fun hg => by obtain ⟨hg0, _⟩ := hg; subst hg0; (try simp only [List.cons_append, List.nil_append, gvl_nil, gvl_t, gvl_f]); refine ⟨_, rfl, ?_⟩; exact fun w1 hw1 => c_EF2 (xs := x.els) (ys := y.els) w1 (h1s.keep (Kept.later (hw1.base (by simp)))) (h2s.keep (Kept.later (hw1.base (by simp))))) ?_
  intro b15 hb15
  refine x_bool rfl rfl rfl (v_and rfl rfl) ?_
  intro b16 hb16
  refine x_val rfl rfl rfl (v_assign rfl) ?_
  refine x_end ?_
  refine t_norm ?_
  refine w_ret ?_
  refine ret1 rfl rfl (fun w' hm => ⟨?_, hm.base (by simp)⟩)
  congr 3
  rw [hb16, hb15, hb9, Bool.eq_iff_iff]
  simp only [Bool.and_eq_true, decide_eq_true_eq]
  constructor
  · rintro ⟨h1, h2⟩; exact seg_ext h1 h2
  · rintro rfl; exact ⟨rfl, rfl⟩
set_option maxRecDepth 100000 in
theorem c_EF1 {u v : Value} {xs ys : List Seg} {D1 D2 : Nat → Prop} (w : World) (h1s : sliceRd tySeg D1 w u xs) (h2s : sliceRd tySeg D2 w v ys) :
    Calls Tryz.prog 64 #[u, v, .func (.func 65) #[] #[]] w fun e w' => e = .returned (.bool (decide (xs = ys))) ∧ Later w w' := by
  obtain ⟨A1, c1, rfl, hl1, hm1, _⟩ := id h1s
  obtain ⟨A2, c2, rfl, hl2, hm2, _⟩ := id h2s
  refine enter (vs := [.slice A1 xs.length c1, .slice A2 ys.length c2, .func (.func 65) #[] #[]]) Tryz.func64 rfl Tryz.ntmps64 rfl ?_
  refine w_seq ?_
  refine rg_text ?_
  refine x_val rfl rfl rfl (v_assign rfl) ?_
  refine x_end ?_
  refine t_norm ?_
  refine w_seq ?_
  refine w_seq ?_
  refine rg_text ?_
  refine x_val rfl rfl rfl (v_move rfl) ?_
  refine x_val rfl rfl rfl (v_len_slice Tryz.underlying29 rfl) ?_
  refine x_val rfl rfl rfl (v_move rfl) ?_
  refine x_val rfl rfl rfl (v_len_slice Tryz.underlying29 rfl) ?_
  refine x_bool rfl rfl rfl (v_neq rfl rfl) ?_
  intro b14 hb14
  refine x_end ?_
  refine t_norm ?_
  refine w_cond rfl (fun hc14 => ?_) (fun hc14 => ?_)
  · simp only [hb14, decide_eq_true_eq, decide_eq_false_iff_not, Bool.and_eq_true, Bool.or_eq_true, Bool.and_eq_false_iff, Bool.or_eq_false_iff, Bool.not_eq_true', Bool.not_eq_false', ne_eq, Decidable.not_not] at hc14
    have hne : xs ≠ ys := fun h => by rw [h] at hc14; exact hc14 rfl
    refine w_seq ?_
    refine rg_text ?_
    refine x_val rfl rfl rfl (v_assign rfl) ?_
    refine x_end ?_
    refine t_norm ?_
    refine w_ret ?_
    refine t_ret ?_
    refine ret1 rfl rfl (fun w' hm => ⟨?_, hm.base (by simp)⟩)
    rw [decide_eq_false (hne)]
  · simp only [hb14, decide_eq_true_eq, decide_eq_false_iff_not, Bool.and_eq_true, Bool.or_eq_true, Bool.and_eq_false_iff, Bool.or_eq_false_iff, Bool.not_eq_true', Bool.not_eq_false', ne_eq, Decidable.not_not] at hc14
    have hlen : xs.length = ys.length := by omega
    refine w_skip ?_
    refine t_norm ?_
    refine w_seq ?_
    refine w_seq ?_
    refine rg_text ?_
    refine x_val rfl rfl rfl (v_move rfl) ?_
    refine x_val rfl rfl rfl (v_len_slice Tryz.underlying29 rfl) ?_
    refine x_val rfl rfl rfl (v_move rfl) ?_
    refine x_end ?_
    refine t_norm ?_
    refine w_block ?_
    refine w_loop (σ := Nat) (fun x => x ≤ xs.length ∧ xs.take x = ys.take x) (fun x => [(0, Value.slice A1 xs.length c1), (1, Value.slice A2 ys.length c2), (2, Value.func (.func 65) #[] #[]), (15, Value.slice A1 xs.length c1), (16, Value.int .i64 (xs.length : Nat)), (17, Value.int .i64 (x : Nat))]) (fun x => []) (fun x => [(w, fun _ => True)]) (fun x => xs.length - x) (0) (⟨Nat.zero_le _, rfl⟩) (l_start (by repeat (first | exact Sub.nil | refine Sub.cons rfl ?_)) (fun _ h => h)) ?_
    rintro k ⟨hk, ht⟩
    refine w_state ([(0, Value.slice A1 xs.length c1), (1, Value.slice A2 ys.length c2), (2, Value.func (.func 65) #[] #[]), (15, Value.slice A1 xs.length c1), (16, Value.int .i64 (xs.length : Nat)), (17, Value.int .i64 (k : Nat))]) ([]) ([(w, fun _ => True)]) ?_
    refine w_seq ?_
    refine rg_text ?_
    refine x_bool rfl rfl rfl (v_lss rfl rfl) ?_
    intro b18 hb18
    refine x_end ?_
    refine t_norm ?_
    refine w_seq ?_
    refine w_cond rfl (fun hc18 => ?_) (fun hc18 => ?_)
    · simp only [hb18, decide_eq_true_eq, decide_eq_false_iff_not, Bool.and_eq_true, Bool.or_eq_true, Bool.and_eq_false_iff, Bool.or_eq_false_iff, Bool.not_eq_true', Bool.not_eq_false', ne_eq, Decidable.not_not] at hc18
      have h1 : k < xs.length := by omega
      have h2 : k < ys.length := by omega
      obtain ⟨b1, o1, u1, hA1, _, t1, v1, _, r1⟩ := seg_at h1s h1
      obtain ⟨b2, o2, u2, hA2, _, t2, v2, _, r2⟩ := seg_at h2s h2
      obtain ⟨B1, d1, rfl, _⟩ := id r1
      obtain ⟨B2, d2, rfl, _⟩ := id r2
      refine w_skip ?_
      refine t_norm ?_
      refine w_seq ?_
      refine w_block ?_
      refine w_seq ?_
      refine rg_text ?_
      refine x_val rfl rfl rfl (v_move rfl) ?_
      refine x_val rfl rfl rfl (v_indexAddr Tryz.underlying29 sz49 (congrArg (fun A => some (Value.slice A xs.length c1)) hA1) rfl (by first | omega | (dsimp only; omega)) rfl) ?_
      refine x_val rfl rfl rfl (v_loadN (vs := [Value.string xs[k].tag, .slice B1 xs[k].els.length d1]) Tryz.underlying49 rfl sz49 rfl (fun i hi => by match i, hi with | 0, _ => exact at_ro (.head _) trivial t1 | 1, _ => exact at_ro (.head _) trivial v1)) ?_
      refine x_alloc rfl rfl rfl zr49 ?_
      intro p8
      refine x_val rfl rfl rfl (v_assign rfl) ?_
      refine x_store0 [] rfl rfl rfl rfl sz49 rfl rfl ?_
      refine x_end ?_
      refine t_norm ?_
      refine w_seq ?_
      refine rg_text ?_
      refine x_val rfl rfl rfl (v_move rfl) ?_
      refine x_val rfl rfl rfl (v_move rfl) ?_
      refine x_val rfl rfl rfl (v_indexAddr Tryz.underlying29 sz49 (congrArg (fun A => some (Value.slice A ys.length c2)) hA2) rfl (by first | omega | (dsimp only; omega)) rfl) ?_
      refine x_val rfl rfl rfl (v_loadN (vs := [Value.string ys[k].tag, .slice B2 ys[k].els.length d2]) Tryz.underlying49 rfl sz49 rfl (fun i hi => by match i, hi with | 0, _ => exact at_ro (.head _) trivial t2 | 1, _ => exact at_ro (.head _) trivial v2)) ?_
      refine x_alloc rfl rfl rfl zr49 ?_
      intro p9
      refine x_store0 [] rfl rfl rfl rfl sz49 rfl rfl ?_
      refine x_end ?_
      refine t_norm ?_
      refine w_seq ?_
      refine rg_text ?_
      refine x_val rfl rfl rfl (v_move rfl) ?_
      refine x_val rfl rfl rfl (v_load_blk (e := 49) (fz := (0, 0)) (cs := [Value.string xs[k].tag, .slice B1 xs[k].els.length d1].toArray) Tryz.underlying49 rfl rfl (.tail _ (.head _)) sz49) ?_
      refine x_val rfl rfl rfl (v_load_blk (e := 49) (fz := (0, 0)) (cs := [Value.string ys[k].tag, .slice B2 ys[k].els.length d2].toArray) Tryz.underlying49 rfl rfl (.head _) sz49) ?_
      refine x_clb rfl rfl rfl rfl Tryz.func65 (by kernel_rfl) rfl (fun w1 hw1 => by exact calls_clp (c_same1 (x := xs[k]) (y := ys[k]) w1 (r1.keep (Kept.later (hw1.base (by simp)))) (r2.keep (Kept.later (hw1.base (by simp)))))) ?_
      intro b29 hb29
      refine x_bool rfl rfl rfl (v_not rfl) ?_
      intro b30 hb30
      refine x_end ?_
      refine t_norm ?_
      refine w_cond rfl (fun hc30 => ?_) (fun hc30 => ?_)
      · have hne : xs ≠ ys := ne_at h1 h2 (fun h => by rw [hb30, hb29, decide_eq_true h] at hc30; cases hc30)
        refine w_seq ?_
        refine rg_text ?_
        refine x_val rfl rfl rfl (v_assign rfl) ?_
        refine x_end ?_
        refine t_norm ?_
        refine w_ret ?_
        refine b_ret ?_
        refine t_ret ?_
        refine t_ret ?_
        refine b_ret ?_
        refine t_ret ?_
        refine ret1 rfl rfl (fun w' hm => ⟨?_, hm.base (by simp)⟩)
        rw [decide_eq_false (hne)]
      · have heq : xs[k] = ys[k] := by
          rw [hb30, hb29] at hc30
          exact of_decide_eq_true (by simpa using hc30)
        refine w_skip ?_
        refine b_norm ?_
        refine t_norm ?_
        refine rg_text ?_
        refine x_val rfl rfl rfl (v_addi rfl rfl rfl (by first | omega | (dsimp only; omega))) ?_
        refine x_val rfl rfl rfl (v_move rfl) ?_
        refine x_end ?_
        exact l_norm (k + 1) ⟨by omega, take_eq_succ h1 h2 ht heq⟩ (by omega) (by repeat (first | exact Sub.nil | refine Sub.cons rfl ?_)) (fun _ h => h.less (List.nil_sublist _) (fun _ h => h))
    · simp only [hb18, decide_eq_true_eq, decide_eq_false_iff_not, Bool.and_eq_true, Bool.or_eq_true, Bool.and_eq_false_iff, Bool.or_eq_false_iff, Bool.not_eq_true', Bool.not_eq_false', ne_eq, Decidable.not_not] at hc18
      obtain rfl : k = xs.length := by omega
      refine w_exit ?_
      refine t_exit ?_
      refine t_exit ?_
      refine b_hit ?_
      refine t_norm ?_
      refine w_seq ?_
      refine rg_text ?_
      refine x_val rfl rfl rfl (v_assign rfl) ?_
      refine x_end ?_
      refine t_norm ?_
      refine w_ret ?_
      refine ret1 rfl rfl (fun w' hm => ⟨?_, hm.base (by simp)⟩)
      rw [decide_eq_true (take_all hlen ht)]
set_option maxRecDepth 100000 in
theorem c_same {u v : Value} {xs ys : List Seg} {D1 D2 : Nat → Prop} (w : World) (h1s : sliceRd tySeg D1 w u xs) (h2s : sliceRd tySeg D2 w v ys) :
    Calls Tryz.prog 42 #[u, v] w fun e w' => e = .returned (.bool (decide (xs = ys))) ∧ Later w w' := by
  refine enter (vs := [u, v]) Tryz.func42 rfl Tryz.ntmps42 rfl ?_
  refine w_seq ?_
  refine rg_text ?_
  refine x_val rfl rfl rfl (v_assign rfl) ?_
  refine x_end ?_
  refine t_norm ?_
  refine w_seq ?_
  refine rg_text ?_
  refine x_val rfl rfl rfl (v_move rfl) ?_
  refine x_val rfl rfl rfl (v_move rfl) ?_
  refine x_callb rfl rfl rfl Tryz.func64 (by kernel_rfl) rfl (fun w1 hw1 => c_EF1 w1 (h1s.keep (Kept.later (hw1.base (by simp)))) (h2s.keep (Kept.later (hw1.base (by simp))))) ?_
  intro b7 hb7
  refine x_val rfl rfl rfl (v_assign rfl) ?_
  refine x_end ?_
  refine t_norm ?_
  refine w_ret ?_
  refine ret1 rfl rfl (fun w' hm => ⟨?_, hm.base (by simp)⟩)
  rw [hb7]

end Go.Proofs.YtbamklefagghcaaGreatDoor

namespace Go.Proofs.YtbamklefagghcaaGreatDoor
open Go.RowKit Go.PK
set_option linter.unusedVariables false
set_option linter.unusedSimpArgs false

theorem ord_out {v : Value} {e : Ending} {wa wb : World} {xs : List Seg} (h1 : e = .returned v) (h2 : Later wa wb) (h3 : sliceRd tySeg (fun b => wa.heap.size ≤ b) wb v xs) (h4 : xs.length = 0 → v = .slice none 0 0) :
    ∃ v, e = .returned v ∧ Later wa wb ∧ ∃ A1 c1, v = .slice A1 xs.length c1 ∧ sliceRd tySeg (fun b => wa.heap.size ≤ b) wb (.slice A1 xs.length c1) xs ∧ A1.isNone = decide (xs.length = 0) := by
  obtain ⟨A1, c1, rfl, _, _, hh⟩ := id h3
  refine ⟨_, h1, h2, A1, c1, rfl, h3, ?_⟩
  by_cases h0 : xs.length = 0
  · have h5 := h4 h0
    injection h5 with h5
    rw [h5, decide_eq_true h0]; rfl
  · obtain ⟨b, o, rfl, _⟩ := hh (by omega)
    rw [decide_eq_false h0]; rfl
end Go.Proofs.YtbamklefagghcaaGreatDoor

namespace Go.Proofs.YtbamklefagghcaaGreatDoor
open Go.RowKit Go.PK
set_option linter.unusedVariables false
set_option linter.unusedSimpArgs false

end Go.Proofs.YtbamklefagghcaaGreatDoor

namespace Go.Proofs.YtbamklefagghcaaGreatDoor
open Go.RowKit Go.PK
set_option linter.unusedVariables false
set_option linter.unusedSimpArgs false
set_option maxHeartbeats 2000000 in
set_option maxRecDepth 100000 in
theorem c_With {v : Value} {ls : List PK.Ord} {D : Nat → Prop} (w : World) (hls : sliceRd tyOrd D w v ls) (t : ByteArray) (hw : ∀ o ∈ ls, wrO (pf o)) (hn : ls.length ≤ 1000) (ht : okS t) :
    Calls Tryz.prog 20 #[v, .string t] w fun e w' => ∃ q, e = .returned q ∧ Later w w' ∧ sliceRd tySeg (fun b => w.heap.size ≤ b) w' q (withX ls t) := by
  obtain ⟨A, cp, rfl, hlc, hmx, _⟩ := id hls
  refine enter (vs := [Value.slice A ls.length cp, .string t]) Tryz.func20 rfl Tryz.ntmps20 rfl ?_
  refine w_seq ?_
  refine rg_text ?_
  refine x_val rfl rfl rfl (v_assign rfl) ?_
  refine x_end ?_
  refine t_norm ?_
  refine w_seq ?_
  refine rg_text ?_
  refine x_call (R := fun v wa wb => ∃ A c, v = .agg #[.string (⟨#[85, 78, 72]⟩), .slice A 2 c] ∧ sliceRd (tySlice tyStr) (fun b => wa.heap.size ≤ b) wb (.slice A 2 c) [[⟨#[49]⟩], [⟨#[73, 78, 86, 79, 73, 67]⟩, ⟨#[68]⟩, ⟨#[57, 54, 65]⟩, ⟨#[85, 78]⟩]]) rfl rfl rfl Tryz.func35 (by kernel_rfl) rfl (fun w1 hw1 => (c_header ⟨#[73, 78, 86, 79, 73, 67]⟩ w1 (okS_small (by decide))).mono fun e w2 ⟨u, h1, h2, h3⟩ => seg_out h1 h2 h3) ?_
  intro v8 wa8 wb8 hm8 hl8 hR8
  obtain ⟨A8, c8, rfl, hs8⟩ := hR8
  refine x_buildSliceL (cs := [Value.string (⟨#[51, 56, 48]⟩)]) rfl rfl rfl Tryz.underlying54 sz9 zr9 rfl rfl rfl ?_
  intro p9
  refine x_call (R := fun v wa wb => ∃ A c, v = .agg #[.string (⟨#[66, 71, 77]⟩), .slice A 1 c] ∧ sliceRd (tySlice tyStr) (fun b => wa.heap.size ≤ b) wb (.slice A 1 c) [[⟨#[51, 56, 48]⟩]]) rfl rfl rfl Tryz.func36 (by kernel_rfl) rfl (fun w1 hw1 => (c_one (es := [⟨#[51, 56, 48]⟩]) (D := fun _ => True) ⟨#[66, 71, 77]⟩ w1 (lits_own (T := tyStr) (D := fun _ => True) (e := 9) (b := p9) [[Value.string (⟨#[51, 56, 48]⟩)]] (xs := [⟨#[51, 56, 48]⟩]) hw1 (by repeat (first | exact List.Mem.head _ | apply List.Mem.tail)) rfl (by simp) trivial ⟨⟨rfl, (okS_small (by decide))⟩, trivial⟩) (by simp)).mono fun e w2 ⟨u, h1, h2, h3⟩ => seg_out h1 h2 h3) ?_
  intro v10 wa10 wb10 hm10 hl10 hR10
  obtain ⟨A10, c10, rfl, hs10⟩ := hR10
  refine x_buildSliceL (cs := ([[Value.string ⟨#[85, 78, 72]⟩, .slice A8 2 c8], [Value.string ⟨#[66, 71, 77]⟩, .slice A10 1 c10]] : List (List Value)).flatten) rfl rfl rfl Tryz.underlying29 sz49 zr49 rfl rfl rfl ?_
  intro p11
  refine x_val rfl rfl rfl (v_assign rfl) ?_
  refine x_end ?_
  refine t_norm ?_
  refine w_seq ?_
  refine w_seq ?_
  refine rg_text ?_
  refine x_val rfl rfl rfl (v_assign rfl) ?_
  refine x_end ?_
  refine t_norm ?_
  refine w_block ?_
  refine w_fix (rowO 49 (some (p11, ([[Value.string ⟨#[85, 78, 72]⟩, .slice A8 2 c8], [Value.string ⟨#[66, 71, 77]⟩, .slice A10 1 c10]] : List (List Value)).flatten, 2))) (List.Sublist.cons_cons _ (List.nil_sublist _)) (fun w0 hm0 => ?_)
  have hmB := hm0.less (own' := rowO 49 (some (p11, ([[Value.string ⟨#[85, 78, 72]⟩, .slice A8 2 c8], [Value.string ⟨#[66, 71, 77]⟩, .slice A10 1 c10]] : List (List Value)).flatten, 2))) (List.Sublist.cons_cons _ (List.nil_sublist _)) (fun _ h => h)
  have hT0 : RowT tySeg (newD w (rowO 49 (some (p11, ([[Value.string ⟨#[85, 78, 72]⟩, .slice A8 2 c8], [Value.string ⟨#[66, 71, 77]⟩, .slice A10 1 c10]] : List (List Value)).flatten, 2)))) w0 (some (p11, ([[Value.string ⟨#[85, 78, 72]⟩, .slice A8 2 c8], [Value.string ⟨#[66, 71, 77]⟩, .slice A10 1 c10]] : List (List Value)).flatten, 2)) (headX ++ linesX 0 (ls.take 0)) := snocM (T := tySeg) (xs := []) (css := []) (css' := [[Value.string ⟨#[85, 78, 72]⟩, .slice A8 2 c8], [Value.string ⟨#[66, 71, 77]⟩, .slice A10 1 c10]]) (m := 2) (n := 0) rfl rfl (fun j h => absurd h (Nat.not_lt_zero _)) (rowOK_lit rfl (by decide)) rfl (.cons (tySeg_mk (x := ⟨⟨#[85, 78, 72]⟩, [[⟨#[49]⟩], [⟨#[73, 78, 86, 79, 73, 67]⟩, ⟨#[68]⟩, ⟨#[57, 54, 65]⟩, ⟨#[85, 78]⟩]]⟩) rfl (show (3 : Nat) ≤ 9223372036854775807 by decide) (hs8.keep (Kept.made hmB (by first | repeat (first | exact List.Mem.head _ | apply List.Mem.tail) | simp) hm8 (hm8.base (by simp)).size))) (.cons (tySeg_mk (x := ⟨⟨#[66, 71, 77]⟩, [[⟨#[51, 56, 48]⟩]]⟩) rfl (show (3 : Nat) ≤ 9223372036854775807 by decide) (hs10.keep (Kept.made hmB (by first | repeat (first | exact List.Mem.head _ | apply List.Mem.tail) | simp) hm10 (hm10.base (by simp)).size))) .nil))
  refine w_loop (σ := Nat × RowS × World) (fun x => x.1 ≤ ls.length ∧ RowT tySeg (newD w (rowO 49 x.2.1)) x.2.2 x.2.1 (headX ++ linesX 0 (ls.take x.1))) (fun x => [(0, Value.slice A ls.length cp), (1, Value.string t), (5, rowV x.2.1 (2 + 4 * x.1)), (6, Value.int .i64 (x.1 : Nat))]) (fun x => rowO 49 x.2.1) (fun x => (x.2.2, notOwn (rowO 49 x.2.1)) :: [(w, fun _ => True)]) (fun x => ls.length - x.1) ((0, (some (p11, ([[Value.string ⟨#[85, 78, 72]⟩, .slice A8 2 c8], [Value.string ⟨#[66, 71, 77]⟩, .slice A10 1 c10]] : List (List Value)).flatten, 2)), w0)) (⟨Nat.zero_le _, hT0⟩) (l_start (by repeat (first | exact Sub.nil | refine Sub.cons rfl ?_)) (fun _ h => h.less (List.Sublist.refl _) (fun q hq => by simp at hq ⊢; rcases hq with h | h; (· exact .inl h); simp [h]))) ?_
  rintro ⟨k, R, ws⟩ ⟨hk, hT⟩
  refine w_state ([(0, Value.slice A ls.length cp), (1, Value.string t), (5, rowV R (2 + 4 * k)), (6, Value.int .i64 (k : Nat))]) (rowO 49 R) ((ws, notOwn (rowO 49 R)) :: [(w, fun _ => True)]) ?_
  dsimp only at hk hT
  have hln := hl_len hk
  refine w_seq ?_
  refine w_seq ?_
  refine rg_text ?_
  refine x_val rfl rfl rfl (v_move rfl) ?_
  refine x_val rfl rfl rfl (v_move rfl) ?_
  refine x_val rfl rfl rfl (v_len_slice Tryz.underlying28 rfl) ?_
  refine x_bool rfl rfl rfl (v_lss rfl rfl) ?_
  intro b15 hb15
  refine x_end ?_
  refine t_norm ?_
  refine w_cond rfl (fun hc15 => ?_) (fun hc15 => ?_)
  · simp only [hb15, decide_eq_true_eq, decide_eq_false_iff_not, Bool.and_eq_true, Bool.or_eq_true, Bool.and_eq_false_iff, Bool.or_eq_false_iff, Bool.not_eq_true', Bool.not_eq_false', ne_eq, Decidable.not_not] at hc15
    have hkl : k < ls.length := by omega
    obtain ⟨ob, oo, hA, _, hc, hoA⟩ := ord_at hls hkl
    obtain ⟨_, _, ⟨r1, r2⟩, ⟨r3, r4⟩, ⟨r5, r6⟩, ⟨r7, r8⟩, r9, r10⟩ := line_rng (hw ls[k] (List.getElem_mem hkl))
    obtain ⟨⟨i1, _, i3, i4, i5, i6⟩, _⟩ := id hoA
    refine w_skip ?_
    refine t_norm ?_
    refine w_seq ?_
    refine w_block ?_
    refine w_seq ?_
    refine rg_text ?_
    refine x_val rfl rfl rfl (v_move rfl) ?_
    refine x_val rfl rfl rfl (v_move rfl) ?_
    refine x_val rfl rfl rfl (v_indexAddr Tryz.underlying28 sz25 (congrArg (fun A => some (Value.slice A ls.length cp)) hA) rfl (hkl) rfl) ?_
    refine x_val rfl rfl rfl (v_loadN (vs := ls[k].cells) Tryz.underlying25 rfl sz25 rfl (fun j hj => at_ro (.tail _ (.head _)) trivial (hc j hj))) ?_
    refine x_alloc rfl rfl rfl zr25 ?_
    intro p7
    refine x_store0 [] rfl rfl rfl rfl sz25 rfl rfl ?_
    refine x_end ?_
    refine t_norm ?_
    refine rg_draw 19 [(true, 0), (true, 1), (true, 2), (true, 3), (true, 4), (true, 6), (true, 7), (true, 10), (true, 11), (true, 14), (true, 15), (false, 5), (true, 8), (false, 9), (true, 12), (false, 13), (true, 16), (false, 17), (false, 18)] (by kernel_rfl) (by kernel_rfl) ?_
    refine x_val rfl rfl rfl (v_move rfl) ?_
    refine x_val rfl rfl rfl (v_move rfl) ?_
    refine x_val rfl rfl rfl (v_addi (c := ((k + 1 : Nat) : Int)) rfl rfl (by omega) (by omega)) ?_
    refine x_val rfl rfl rfl (v_fieldAddr (off' := 2) Tryz.underlying25 rfl sz23 (by decide) rfl rfl) ?_
    refine x_val rfl rfl rfl (v_loadN (vs := [Value.int .i64 ls[k].src, .int .i64 ls[k].num]) Tryz.underlying23 rfl sz23 rfl (fun j hj => at_ownL (vs := ls[k].cells) (by repeat (first | exact List.Mem.head _ | apply List.Mem.tail)) (by match j, hj with | 0, _ => rfl | 1, _ => rfl))) ?_
    refine x_val rfl rfl rfl (v_fieldAddr (off' := 0) Tryz.underlying25 rfl sz3 (by decide) rfl rfl) ?_
    refine x_val rfl rfl rfl (v_load Tryz.underlying3 rfl rfl (by first | exact at_ownL (.head _) rfl | exact at_ownL (.tail _ (.head _)) rfl | exact at_ownL (.tail _ (.tail _ (.head _))) rfl | (apply at_ownL; ((repeat (first | exact List.Mem.head _ | apply List.Mem.tail | apply List.mem_append_right))); rfl) | (refine at_ro (by first | exact .head _ | exact .tail _ (.head _) | exact .tail _ (.tail _ (.head _)) | simp) ?_ (by assumption); trivial))) ?_
    refine x_val rfl rfl rfl (v_fieldAddr (off' := 4) Tryz.underlying25 rfl sz3 (by decide) rfl rfl) ?_
    refine x_val rfl rfl rfl (v_load Tryz.underlying3 rfl rfl (by first | exact at_ownL (.head _) rfl | exact at_ownL (.tail _ (.head _)) rfl | exact at_ownL (.tail _ (.tail _ (.head _))) rfl | (apply at_ownL; ((repeat (first | exact List.Mem.head _ | apply List.Mem.tail | apply List.mem_append_right))); rfl) | (refine at_ro (by first | exact .head _ | exact .tail _ (.head _) | exact .tail _ (.tail _ (.head _)) | simp) ?_ (by assumption); trivial))) ?_
    refine x_val rfl rfl rfl (v_fieldAddr (off' := 5) Tryz.underlying25 rfl sz3 (by decide) rfl rfl) ?_
    refine x_val rfl rfl rfl (v_load Tryz.underlying3 rfl rfl (by first | exact at_ownL (.head _) rfl | exact at_ownL (.tail _ (.head _)) rfl | exact at_ownL (.tail _ (.tail _ (.head _))) rfl | (apply at_ownL; ((repeat (first | exact List.Mem.head _ | apply List.Mem.tail | apply List.mem_append_right))); rfl) | (refine at_ro (by first | exact .head _ | exact .tail _ (.head _) | exact .tail _ (.tail _ (.head _)) | simp) ?_ (by assumption); trivial))) ?_
    refine x_call (R := fun v wa wb => ∃ A c, v = .agg #[.string (⟨#[76, 73, 78]⟩), .slice A 3 c] ∧ sliceRd (tySlice tyStr) (fun b => wa.heap.size ≤ b) wb (.slice A 3 c) [[itoaS ((k + 1 : Nat) : Int)], [⟨#[]⟩], [recT ls[k].src ls[k].num, ⟨#[83, 82, 86]⟩]]) rfl rfl rfl Tryz.func37 (by kernel_rfl) rfl (fun w1 hw1 => (c_line ((k + 1 : Nat) : Int) (ls[k].src, ls[k].num) w1 ⟨by omega, by unfold in64; omega⟩ ⟨r3, i3⟩ ⟨r5, i4⟩).mono fun e w2 ⟨u, h1, h2, h3⟩ => seg_out h1 h2 h3) ?_
    intro v27 wa27 wb27 hm27 hl27 hR27
    obtain ⟨A27, c27, rfl, hs27⟩ := hR27
    refine x_callv rfl rfl rfl Tryz.func21 (by kernel_rfl) rfl (fun w1 hw1 => c_Dec ls[k].id w1 r1 i1) ?_
    refine x_call (R := fun v wa wb => ∃ A c, v = .agg #[.string (⟨#[82, 70, 70]⟩), .slice A 1 c] ∧ sliceRd (tySlice tyStr) (fun b => wa.heap.size ≤ b) wb (.slice A 1 c) [[⟨#[79, 78]⟩, itoaS ls[k].id]]) rfl rfl rfl Tryz.func38 (by kernel_rfl) rfl (fun w1 hw1 => (c_pair ⟨#[82, 70, 70]⟩ ⟨#[79, 78]⟩ (itoaS ls[k].id) w1 (okS_small (by decide)) (itoa_ok i1)).mono fun e w2 ⟨u, h1, h2, h3⟩ => seg_out h1 h2 h3) ?_
    intro v31 wa31 wb31 hm31 hl31 hR31
    obtain ⟨A31, c31, rfl, hs31⟩ := hR31
    refine x_callv rfl rfl rfl Tryz.func21 (by kernel_rfl) rfl (fun w1 hw1 => c_Dec ls[k].copies w1 r7 i5) ?_
    refine x_call (R := fun v wa wb => ∃ A c, v = .agg #[.string (⟨#[81, 84, 89]⟩), .slice A 1 c] ∧ sliceRd (tySlice tyStr) (fun b => wa.heap.size ≤ b) wb (.slice A 1 c) [[⟨#[52, 55]⟩, itoaS ls[k].copies]]) rfl rfl rfl Tryz.func38 (by kernel_rfl) rfl (fun w1 hw1 => (c_pair ⟨#[81, 84, 89]⟩ ⟨#[52, 55]⟩ (itoaS ls[k].copies) w1 (okS_small (by decide)) (itoa_ok i5)).mono fun e w2 ⟨u, h1, h2, h3⟩ => seg_out h1 h2 h3) ?_
    intro v35 wa35 wb35 hm35 hl35 hR35
    obtain ⟨A35, c35, rfl, hs35⟩ := hR35
    refine x_callv rfl rfl rfl Tryz.func21 (by kernel_rfl) rfl (fun w1 hw1 => c_Dec ls[k].price w1 r9 i6) ?_
    refine x_call (R := fun v wa wb => ∃ A c, v = .agg #[.string (⟨#[80, 82, 73]⟩), .slice A 1 c] ∧ sliceRd (tySlice tyStr) (fun b => wa.heap.size ≤ b) wb (.slice A 1 c) [[⟨#[65, 65, 65]⟩, itoaS ls[k].price]]) rfl rfl rfl Tryz.func38 (by kernel_rfl) rfl (fun w1 hw1 => (c_pair ⟨#[80, 82, 73]⟩ ⟨#[65, 65, 65]⟩ (itoaS ls[k].price) w1 (okS_small (by decide)) (itoa_ok i6)).mono fun e w2 ⟨u, h1, h2, h3⟩ => seg_out h1 h2 h3) ?_
    intro v39 wa39 wb39 hm39 hl39 hR39
    obtain ⟨A39, c39, rfl, hs39⟩ := hR39
    refine x_buildSliceL (cs := ([[Value.string ⟨#[76, 73, 78]⟩, .slice A27 3 c27], [Value.string ⟨#[82, 70, 70]⟩, .slice A31 1 c31], [Value.string ⟨#[81, 84, 89]⟩, .slice A35 1 c35], [Value.string ⟨#[80, 82, 73]⟩, .slice A39 1 c39]] : List (List Value)).flatten) rfl rfl rfl Tryz.underlying29 sz49 zr49 rfl rfl rfl ?_
    intro p40
    obtain ⟨css, hcl, hrow, hrd⟩ := hT
    rw [hln] at hcl hrow
    refine x_append (e := 49) [(p40, Obj.cells ([[Value.string ⟨#[76, 73, 78]⟩, .slice A27 3 c27], [Value.string ⟨#[82, 70, 70]⟩, .slice A31 1 c31], [Value.string ⟨#[81, 84, 89]⟩, .slice A35 1 c35], [Value.string ⟨#[80, 82, 73]⟩, .slice A39 1 c39]] : List (List Value)).flatten.toArray 49), (p7, Obj.cells ls[k].cells.toArray 25)] (l2 := []) R (len := 2 + 4 * k) (xs := css.flatten) rfl rfl rfl rfl (by rw [List.append_nil]; rfl) hrow Tryz.underlying29 ap49 rfl rfl (m := 4) (news := ([[Value.string ⟨#[76, 73, 78]⟩, .slice A27 3 c27], [Value.string ⟨#[82, 70, 70]⟩, .slice A31 1 c31], [Value.string ⟨#[81, 84, 89]⟩, .slice A35 1 c35], [Value.string ⟨#[80, 82, 73]⟩, .slice A39 1 c39]] : List (List Value)).flatten) (fun i hi => at_ownL (vs := ([[Value.string ⟨#[76, 73, 78]⟩, .slice A27 3 c27], [Value.string ⟨#[82, 70, 70]⟩, .slice A31 1 c31], [Value.string ⟨#[81, 84, 89]⟩, .slice A35 1 c35], [Value.string ⟨#[80, 82, 73]⟩, .slice A39 1 c39]] : List (List Value)).flatten) (.head _) (by rw [Nat.zero_add]; exact List.getElem?_eq_getElem hi)) rfl (by simp only [maxLen]; omega) (by omega) ?_
    intro R' hR'
    refine x_val rfl rfl rfl (v_assign rfl) ?_
    refine x_end ?_
    refine b_norm ?_
    refine t_norm ?_
    refine rg_text ?_
    refine x_val rfl rfl rfl (v_move rfl) ?_
    refine x_val rfl rfl rfl (v_addi rfl rfl rfl (by first | omega | (dsimp only; omega))) ?_
    refine x_val rfl rfl rfl (v_assign rfl) ?_
    refine x_end ?_
    rw [List.append_nil]
    have hsub : (rowO 49 R').Sublist ([(p40, Obj.cells ([[Value.string ⟨#[76, 73, 78]⟩, .slice A27 3 c27], [Value.string ⟨#[82, 70, 70]⟩, .slice A31 1 c31], [Value.string ⟨#[81, 84, 89]⟩, .slice A35 1 c35], [Value.string ⟨#[80, 82, 73]⟩, .slice A39 1 c39]] : List (List Value)).flatten.toArray 49), (p7, Obj.cells ls[k].cells.toArray 25)] ++ rowO 49 R') := List.sublist_append_right _ _
    refine s_fix (rowO 49 R') hsub (fun w0 hm0 => ?_)
    have hmB := hm0.less hsub (fun _ h => h)
    have hT' := snocM (T := tySeg) (D := newD w (rowO 49 R')) (ws := w0) (ys := inv4 k ls[k]) hln hcl (fun j h1 h2 => tySeg.keep (hrd j h1 h2) (Kept.frz hm0 hsub (by simp))) hR' rfl (.cons (tySeg_mk (x := ⟨⟨#[76, 73, 78]⟩, [[itoaS ((k + 1 : Nat) : Int)], [⟨#[]⟩], [recT ls[k].src ls[k].num, ⟨#[83, 82, 86]⟩]]⟩) rfl (show (3 : Nat) ≤ 9223372036854775807 by decide) (hs27.keep (Kept.made hmB (by first | repeat (first | exact List.Mem.head _ | apply List.Mem.tail) | simp) hm27 (hm27.base (by simp)).size))) (.cons (tySeg_mk (x := ⟨⟨#[82, 70, 70]⟩, [[⟨#[79, 78]⟩, itoaS ls[k].id]]⟩) rfl (show (3 : Nat) ≤ 9223372036854775807 by decide) (hs31.keep (Kept.made hmB (by first | repeat (first | exact List.Mem.head _ | apply List.Mem.tail) | simp) hm31 (hm31.base (by simp)).size))) (.cons (tySeg_mk (x := ⟨⟨#[81, 84, 89]⟩, [[⟨#[52, 55]⟩, itoaS ls[k].copies]]⟩) rfl (show (3 : Nat) ≤ 9223372036854775807 by decide) (hs35.keep (Kept.made hmB (by first | repeat (first | exact List.Mem.head _ | apply List.Mem.tail) | simp) hm35 (hm35.base (by simp)).size))) (.cons (tySeg_mk (x := ⟨⟨#[80, 82, 73]⟩, [[⟨#[65, 65, 65]⟩, itoaS ls[k].price]]⟩) rfl (show (3 : Nat) ≤ 9223372036854775807 by decide) (hs39.keep (Kept.made hmB (by first | repeat (first | exact List.Mem.head _ | apply List.Mem.tail) | simp) hm39 (hm39.base (by simp)).size))) .nil))))
    exact l_norm (x := (k, R, ws)) (μ := fun q : Nat × RowS × World => ls.length - q.1) (k + 1, R', w0) ⟨by dsimp only; omega, by dsimp only; rw [linesX_take hkl]; exact hT'⟩ (by simp only; omega) (by dsimp only; rw [show 2 + 4 * (k + 1) = 2 + 4 * k + 4 by omega]; repeat (first | exact Sub.nil | refine Sub.cons rfl ?_)) (fun w1 h => h.less (List.Sublist.refl _) (fun q hq => by simp at hq ⊢; rcases hq with h | h; (· exact .inl h); simp [h]))
  · simp only [hb15, decide_eq_true_eq, decide_eq_false_iff_not, Bool.and_eq_true, Bool.or_eq_true, Bool.and_eq_false_iff, Bool.or_eq_false_iff, Bool.not_eq_true', Bool.not_eq_false', ne_eq, Decidable.not_not] at hc15
    obtain rfl : k = ls.length := by omega
    rw [List.take_length] at hT hln
    refine w_exit ?_
    refine t_exit ?_
    refine t_exit ?_
    refine b_hit ?_
    refine t_norm ?_
    refine w_seq ?_
    refine rg_text ?_
    refine x_val rfl rfl rfl (v_move rfl) ?_
    refine x_buildSliceL (cs := [Value.string (⟨#[83]⟩)]) rfl rfl rfl Tryz.underlying54 sz9 zr9 rfl rfl rfl ?_
    intro p43
    refine x_call (R := fun v wa wb => ∃ A c, v = .agg #[.string (⟨#[85, 78, 83]⟩), .slice A 1 c] ∧ sliceRd (tySlice tyStr) (fun b => wa.heap.size ≤ b) wb (.slice A 1 c) [[⟨#[83]⟩]]) rfl rfl rfl Tryz.func36 (by kernel_rfl) rfl (fun w1 hw1 => (c_one (es := [⟨#[83]⟩]) (D := fun _ => True) ⟨#[85, 78, 83]⟩ w1 (lits_own (T := tyStr) (D := fun _ => True) (e := 9) (b := p43) [[Value.string (⟨#[83]⟩)]] (xs := [⟨#[83]⟩]) hw1 (by repeat (first | exact List.Mem.head _ | apply List.Mem.tail)) rfl (by simp) trivial ⟨⟨rfl, (okS_small (by decide))⟩, trivial⟩) (by simp)).mono fun e w2 ⟨u, h1, h2, h3⟩ => seg_out h1 h2 h3) ?_
    intro v44 wa44 wb44 hm44 hl44 hR44
    obtain ⟨A44, c44, rfl, hs44⟩ := hR44
    refine x_val rfl rfl rfl (v_move rfl) ?_
    refine x_call (R := fun v wa wb => ∃ A c, v = .agg #[.string (⟨#[77, 79, 65]⟩), .slice A 1 c] ∧ sliceRd (tySlice tyStr) (fun b => wa.heap.size ≤ b) wb (.slice A 1 c) [[⟨#[56, 54]⟩, t]]) rfl rfl rfl Tryz.func38 (by kernel_rfl) rfl (fun w1 hw1 => (c_pair ⟨#[77, 79, 65]⟩ ⟨#[56, 54]⟩ t w1 (okS_small (by decide)) ht).mono fun e w2 ⟨u, h1, h2, h3⟩ => seg_out h1 h2 h3) ?_
    intro v46 wa46 wb46 hm46 hl46 hR46
    obtain ⟨A46, c46, rfl, hs46⟩ := hR46
    refine x_val rfl rfl rfl (v_move rfl) ?_
    refine x_val rfl rfl rfl (v_len_slice Tryz.underlying28 rfl) ?_
    refine x_val rfl rfl rfl (v_muli rfl rfl rfl (by omega)) ?_
    refine x_val rfl rfl rfl (v_addi (c := ((4 * ls.length + 5 : Nat) : Int)) rfl rfl (by omega) (by omega)) ?_
    refine x_callv rfl rfl rfl Tryz.func21 (by kernel_rfl) rfl (fun w1 hw1 => c_Dec ((4 * ls.length + 5 : Nat) : Int) w1 (by omega) (by unfold in64; omega)) ?_
    refine x_buildSliceL (cs := [Value.string (itoaS ((4 * ls.length + 5 : Nat) : Int)), Value.string (⟨#[49]⟩)]) rfl rfl rfl Tryz.underlying54 sz9 zr9 rfl rfl rfl ?_
    intro p52
    refine x_call (R := fun v wa wb => ∃ A c, v = .agg #[.string (⟨#[85, 78, 84]⟩), .slice A 2 c] ∧ sliceRd (tySlice tyStr) (fun b => wa.heap.size ≤ b) wb (.slice A 2 c) [[itoaS ((4 * ls.length + 5 : Nat) : Int)], [⟨#[49]⟩]]) rfl rfl rfl Tryz.func36 (by kernel_rfl) rfl (fun w1 hw1 => (c_one (es := [itoaS ((4 * ls.length + 5 : Nat) : Int), ⟨#[49]⟩]) (D := fun _ => True) ⟨#[85, 78, 84]⟩ w1 (lits_own (T := tyStr) (D := fun _ => True) (e := 9) (b := p52) [[Value.string (itoaS ((4 * ls.length + 5 : Nat) : Int))], [Value.string (⟨#[49]⟩)]] (xs := [itoaS ((4 * ls.length + 5 : Nat) : Int), ⟨#[49]⟩]) hw1 (by repeat (first | exact List.Mem.head _ | apply List.Mem.tail)) rfl (by simp) trivial ⟨⟨rfl, itoa_ok (by unfold in64; omega)⟩, ⟨rfl, (okS_small (by decide))⟩, trivial⟩) (by simp)).mono fun e w2 ⟨u, h1, h2, h3⟩ => seg_out h1 h2 h3) ?_
    intro v53 wa53 wb53 hm53 hl53 hR53
    obtain ⟨A53, c53, rfl, hs53⟩ := hR53
    refine x_buildSliceL (cs := ([[Value.string ⟨#[85, 78, 83]⟩, .slice A44 1 c44], [Value.string ⟨#[77, 79, 65]⟩, .slice A46 1 c46], [Value.string ⟨#[85, 78, 84]⟩, .slice A53 2 c53]] : List (List Value)).flatten) rfl rfl rfl Tryz.underlying29 sz49 zr49 rfl rfl rfl ?_
    intro p54
    obtain ⟨css, hcl, hrow, hrd⟩ := hT
    rw [hln] at hcl hrow
    refine x_append (e := 49) [(p54, _), (p52, _), (p43, _)] (l2 := []) R (len := 2 + 4 * ls.length) (xs := css.flatten) rfl rfl rfl rfl (by rw [List.append_nil]; rfl) hrow Tryz.underlying29 ap49 rfl rfl (m := 3) (news := ([[Value.string ⟨#[85, 78, 83]⟩, .slice A44 1 c44], [Value.string ⟨#[77, 79, 65]⟩, .slice A46 1 c46], [Value.string ⟨#[85, 78, 84]⟩, .slice A53 2 c53]] : List (List Value)).flatten) (fun i hi => at_ownL (vs := ([[Value.string ⟨#[85, 78, 83]⟩, .slice A44 1 c44], [Value.string ⟨#[77, 79, 65]⟩, .slice A46 1 c46], [Value.string ⟨#[85, 78, 84]⟩, .slice A53 2 c53]] : List (List Value)).flatten) (.head _) (by rw [Nat.zero_add]; exact List.getElem?_eq_getElem hi)) rfl (by simp only [maxLen]; omega) (by omega) ?_
    intro R' hR'
    refine x_val rfl rfl rfl (v_assign rfl) ?_
    refine x_end ?_
    refine t_norm ?_
    refine w_ret ?_
    rw [List.append_nil]
    refine ret1 rfl rfl (fun w' hm => ⟨_, rfl, hm.base (by simp), ?_⟩)
    have hsub := List.sublist_append_right ([(p54, Obj.cells ([[Value.string ⟨#[85, 78, 83]⟩, .slice A44 1 c44], [Value.string ⟨#[77, 79, 65]⟩, .slice A46 1 c46], [Value.string ⟨#[85, 78, 84]⟩, .slice A53 2 c53]] : List (List Value)).flatten.toArray 49), (p52, Obj.cells [Value.string (itoaS ((4 * ls.length + 5 : Nat) : Int)), Value.string (⟨#[49]⟩)].toArray 9), (p43, Obj.cells [Value.string (⟨#[83]⟩)].toArray 9)] : List (Nat × Obj)) (rowO 49 R')
    have hmB := hm.less hsub (fun _ h => h)
    have hT' := snocM (T := tySeg) (D := newD w (rowO 49 R')) (ws := w') (ys := tailX ls.length t) hln hcl (fun j h1 h2 => tySeg.keep (hrd j h1 h2) (Kept.frz hm hsub (by simp))) hR' rfl (.cons (tySeg_mk (x := ⟨⟨#[85, 78, 83]⟩, [[⟨#[83]⟩]]⟩) rfl (show (3 : Nat) ≤ 9223372036854775807 by decide) (hs44.keep (Kept.made hmB (by first | repeat (first | exact List.Mem.head _ | apply List.Mem.tail) | simp) hm44 (hm44.base (by simp)).size))) (.cons (tySeg_mk (x := ⟨⟨#[77, 79, 65]⟩, [[⟨#[56, 54]⟩, t]]⟩) rfl (show (3 : Nat) ≤ 9223372036854775807 by decide) (hs46.keep (Kept.made hmB (by first | repeat (first | exact List.Mem.head _ | apply List.Mem.tail) | simp) hm46 (hm46.base (by simp)).size))) (.cons (tySeg_mk (x := ⟨⟨#[85, 78, 84]⟩, [[itoaS ((4 * ls.length + 5 : Nat) : Int)], [⟨#[49]⟩]]⟩) rfl (show (3 : Nat) ≤ 9223372036854775807 by decide) (hs53.keep (Kept.made hmB (by first | repeat (first | exact List.Mem.head _ | apply List.Mem.tail) | simp) hm53 (hm53.base (by simp)).size))) .nil)))
    exact hT'.rd (e := 49) hmB (fun q hq => hq) (fun _ h => h.1) (fun q hq => hmB.newer (by simp) hq) (by rw [List.length_append, hln]; rfl)

end Go.Proofs.YtbamklefagghcaaGreatDoor

namespace Go.Proofs.YtbamklefagghcaaGreatDoor
open Go.RowKit Go.PK
set_option linter.unusedVariables false
set_option linter.unusedSimpArgs false
theorem ap25 : (Tryz.prog.info? 25).map (fun j => (j.zero, j.size, j.bytes)) = some (some (.agg #[.int .i64 0, .int .i64 0, .int .i64 0, .int .i64 0, .int .i64 0, .int .i64 0, .int .i64 0, .int .i64 0, .int .i64 0]), 9, 72) := by kernel_rfl

theorem lineE_okA (l : List Seg) (k : Nat) : (lineE l k).okA := by
  have z : in64 0 := by unfold in64; decide
  exact ⟨⟨readP_in _, z, readP_in _, readP_in _, readP_in _, readP_in _⟩, z, z, z⟩
end Go.Proofs.YtbamklefagghcaaGreatDoor

namespace Go.Proofs.YtbamklefagghcaaGreatDoor
open Go.RowKit Go.PK
set_option linter.unusedVariables false
set_option linter.unusedSimpArgs false
set_option maxHeartbeats 2000000 in
set_option maxRecDepth 100000 in
theorem c_withTotal {v : Value} {ls : List PK.Ord} {D : Nat → Prop} (w : World) (hls : sliceRd tyOrd D w v ls) (n : Int) (hw : ∀ o ∈ ls, wrO (pf o)) (hn : ls.length ≤ 1000) (h0 : 0 ≤ n) (hi : in64 n) (hL : LD w) :
    Calls Tryz.prog 44 #[v, .string (itoaS n)] w fun e w' => ∃ q, e = .returned q ∧ Later w w' ∧ sliceRd tySeg (fun b => w.heap.size ≤ b) w' q (withX ls (itoaS n)) := by
  obtain ⟨A, cp, rfl, hlc, hmx, _⟩ := id hls
  refine enter (vs := [Value.slice A ls.length cp, .string (itoaS n)]) Tryz.func44 rfl Tryz.ntmps44 rfl ?_
  refine w_seq ?_
  refine rg_text ?_
  refine x_val rfl rfl rfl (v_assign rfl) ?_
  refine x_end ?_
  refine t_norm ?_
  refine w_seq ?_
  refine rg_text ?_
  refine x_buildSliceL (cs := [Value.string (⟨#[49]⟩), Value.string (⟨#[73, 78, 86, 79, 73, 67, 58, 68, 58, 57, 54, 65, 58, 85, 78]⟩)]) rfl rfl rfl Tryz.underlying54 sz9 zr9 rfl rfl rfl ?_
  intro p8
  refine x_call (R := fun v wa wb => ∃ A c, v = .agg #[.string ⟨#[85, 78, 72]⟩, .slice A 2 c] ∧ sliceRd (tySlice tyStr) (fun b => wa.heap.size ≤ b) wb (.slice A 2 c) [[⟨#[49]⟩], [⟨#[73, 78, 86, 79, 73, 67]⟩, ⟨#[68]⟩, ⟨#[57, 54, 65]⟩, ⟨#[85, 78]⟩]]) rfl rfl rfl Tryz.func31 (by kernel_rfl) rfl (fun w1 hw1 => (c_segment (es := [⟨#[49]⟩, ⟨#[73, 78, 86, 79, 73, 67, 58, 68, 58, 57, 54, 65, 58, 85, 78]⟩]) (D := fun _ => True) ⟨#[85, 78, 72]⟩ w1 (rowS_rd (e := 9) (r := some (p8, [Value.string (⟨#[49]⟩), Value.string (⟨#[73, 78, 86, 79, 73, 67, 58, 68, 58, 57, 54, 65, 58, 85, 78]⟩)], 2)) (n := 2) (rowOK_lit rfl (by decide)) rfl (fun s hs => ok_of (es_unh.2 s hs)) hw1 (fun q hq => by rw [List.mem_singleton.1 hq]; exact (by repeat (first | exact List.Mem.head _ | apply List.Mem.tail))) (fun _ _ => trivial)) (fun s hs => Nat.le_trans (es_unh.2 s hs) (by decide)) (by show 2 ≤ 1000; decide) (hL.later (hw1.base (by simp)))).mono fun e w2 ⟨u, h1, h2, h3⟩ => seg_out h1 h2 (es_unh.1 ▸ h3)) ?_
  intro v9 wa9 wb9 hm9 hl9 hR9
  obtain ⟨A9, c9, rfl, hs9⟩ := hR9
  refine x_buildSliceL (cs := [Value.string (⟨#[51, 56, 48]⟩)]) rfl rfl rfl Tryz.underlying54 sz9 zr9 rfl rfl rfl ?_
  intro p10
  refine x_call (R := fun v wa wb => ∃ A c, v = .agg #[.string ⟨#[66, 71, 77]⟩, .slice A 1 c] ∧ sliceRd (tySlice tyStr) (fun b => wa.heap.size ≤ b) wb (.slice A 1 c) [[⟨#[51, 56, 48]⟩]]) rfl rfl rfl Tryz.func31 (by kernel_rfl) rfl (fun w1 hw1 => (c_segment (es := [⟨#[51, 56, 48]⟩]) (D := fun _ => True) ⟨#[66, 71, 77]⟩ w1 (rowS_rd (e := 9) (r := some (p10, [Value.string (⟨#[51, 56, 48]⟩)], 1)) (n := 1) (rowOK_lit rfl (by decide)) rfl (fun s hs => ok_of (es_bgm.2 s hs)) hw1 (fun q hq => by rw [List.mem_singleton.1 hq]; exact (by repeat (first | exact List.Mem.head _ | apply List.Mem.tail))) (fun _ _ => trivial)) (fun s hs => Nat.le_trans (es_bgm.2 s hs) (by decide)) (by show 1 ≤ 1000; decide) (hL.later (hw1.base (by simp)))).mono fun e w2 ⟨u, h1, h2, h3⟩ => seg_out h1 h2 (es_bgm.1 ▸ h3)) ?_
  intro v11 wa11 wb11 hm11 hl11 hR11
  obtain ⟨A11, c11, rfl, hs11⟩ := hR11
  refine x_buildSliceL (cs := ([[Value.string ⟨#[85, 78, 72]⟩, .slice A9 2 c9], [Value.string ⟨#[66, 71, 77]⟩, .slice A11 1 c11]] : List (List Value)).flatten) rfl rfl rfl Tryz.underlying29 sz49 zr49 rfl rfl rfl ?_
  intro p12
  refine x_val rfl rfl rfl (v_assign rfl) ?_
  refine x_end ?_
  refine t_norm ?_
  refine w_seq ?_
  refine w_seq ?_
  refine rg_text ?_
  refine x_val rfl rfl rfl (v_move rfl) ?_
  refine x_val rfl rfl rfl (v_len_slice Tryz.underlying28 rfl) ?_
  refine x_val rfl rfl rfl (v_move rfl) ?_
  refine x_end ?_
  refine t_norm ?_
  refine w_block ?_
  refine w_fix (rowO 49 (some (p12, ([[Value.string ⟨#[85, 78, 72]⟩, .slice A9 2 c9], [Value.string ⟨#[66, 71, 77]⟩, .slice A11 1 c11]] : List (List Value)).flatten, 2))) (List.Sublist.cons_cons _ (List.nil_sublist _)) (fun w0 hm0 => ?_)
  have hmB := hm0.less (own' := rowO 49 (some (p12, ([[Value.string ⟨#[85, 78, 72]⟩, .slice A9 2 c9], [Value.string ⟨#[66, 71, 77]⟩, .slice A11 1 c11]] : List (List Value)).flatten, 2))) (List.Sublist.cons_cons _ (List.nil_sublist _)) (fun _ h => h)
  have hT0 : RowT tySeg (newD w (rowO 49 (some (p12, ([[Value.string ⟨#[85, 78, 72]⟩, .slice A9 2 c9], [Value.string ⟨#[66, 71, 77]⟩, .slice A11 1 c11]] : List (List Value)).flatten, 2)))) w0 (some (p12, ([[Value.string ⟨#[85, 78, 72]⟩, .slice A9 2 c9], [Value.string ⟨#[66, 71, 77]⟩, .slice A11 1 c11]] : List (List Value)).flatten, 2)) (headX ++ linesX 0 (ls.take 0)) := snocM (T := tySeg) (xs := []) (css := []) (css' := [[Value.string ⟨#[85, 78, 72]⟩, .slice A9 2 c9], [Value.string ⟨#[66, 71, 77]⟩, .slice A11 1 c11]]) (m := 2) (n := 0) rfl rfl (fun j h => absurd h (Nat.not_lt_zero _)) (rowOK_lit rfl (by decide)) rfl (.cons (tySeg_mk (x := ⟨⟨#[85, 78, 72]⟩, [[⟨#[49]⟩], [⟨#[73, 78, 86, 79, 73, 67]⟩, ⟨#[68]⟩, ⟨#[57, 54, 65]⟩, ⟨#[85, 78]⟩]]⟩) rfl (show (3 : Nat) ≤ 9223372036854775807 by decide) (hs9.keep (Kept.made hmB (by first | repeat (first | exact List.Mem.head _ | apply List.Mem.tail) | simp) hm9 (hm9.base (by simp)).size))) (.cons (tySeg_mk (x := ⟨⟨#[66, 71, 77]⟩, [[⟨#[51, 56, 48]⟩]]⟩) rfl (show (3 : Nat) ≤ 9223372036854775807 by decide) (hs11.keep (Kept.made hmB (by first | repeat (first | exact List.Mem.head _ | apply List.Mem.tail) | simp) hm11 (hm11.base (by simp)).size))) .nil))
  refine w_loop (σ := Nat × RowS × World) (fun x => x.1 ≤ ls.length ∧ RowT tySeg (newD w (rowO 49 x.2.1)) x.2.2 x.2.1 (headX ++ linesX 0 (ls.take x.1))) (fun x => [(1, Value.string (itoaS n)), (0, Value.slice A ls.length cp), (13, Value.slice A ls.length cp), (14, Value.int .i64 (ls.length : Nat)), (5, rowV x.2.1 (2 + 4 * x.1)), (15, Value.int .i64 (x.1 : Nat))]) (fun x => rowO 49 x.2.1) (fun x => (x.2.2, notOwn (rowO 49 x.2.1)) :: [(w, fun _ => True)]) (fun x => ls.length - x.1) ((0, (some (p12, ([[Value.string ⟨#[85, 78, 72]⟩, .slice A9 2 c9], [Value.string ⟨#[66, 71, 77]⟩, .slice A11 1 c11]] : List (List Value)).flatten, 2)), w0)) (⟨Nat.zero_le _, hT0⟩) (l_start (by repeat (first | exact Sub.nil | refine Sub.cons rfl ?_)) (fun _ h => h.less (List.Sublist.refl _) (fun q hq => by simp at hq ⊢; rcases hq with h | h; (· exact .inl h); simp [h]))) ?_
  rintro ⟨k, R, ws⟩ ⟨hk, hT⟩
  refine w_state ([(1, Value.string (itoaS n)), (0, Value.slice A ls.length cp), (13, Value.slice A ls.length cp), (14, Value.int .i64 (ls.length : Nat)), (5, rowV R (2 + 4 * k)), (15, Value.int .i64 (k : Nat))]) (rowO 49 R) ((ws, notOwn (rowO 49 R)) :: [(w, fun _ => True)]) ?_
  dsimp only at hk hT
  have hln := hl_len hk
  refine w_seq ?_
  refine rg_text ?_
  refine x_bool rfl rfl rfl (v_lss rfl rfl) ?_
  intro b16 hb16
  refine x_end ?_
  refine t_norm ?_
  refine w_seq ?_
  refine w_cond rfl (fun hc16 => ?_) (fun hc16 => ?_)
  · simp only [hb16, decide_eq_true_eq, decide_eq_false_iff_not, Bool.and_eq_true, Bool.or_eq_true, Bool.and_eq_false_iff, Bool.or_eq_false_iff, Bool.not_eq_true', Bool.not_eq_false', ne_eq, Decidable.not_not] at hc16
    have hkl : k < ls.length := by omega
    obtain ⟨ob, oo, hA, _, hc, hoA⟩ := ord_at hls hkl
    obtain ⟨_, _, ⟨r1, r2⟩, ⟨r3, r4⟩, ⟨r5, r6⟩, ⟨r7, r8⟩, r9, r10⟩ := line_rng (hw ls[k] (List.getElem_mem hkl))
    obtain ⟨⟨i1, _, i3, i4, i5, i6⟩, _⟩ := id hoA
    have ik : in64 ((k + 1 : Nat) : Int) := by unfold in64; omega
    have z1 := itoaS_size i1
    have z5 := itoaS_size i5
    have z6 := itoaS_size i6
    have q27 := es_lin (n := ((k + 1 : Nat) : Int)) (o := ls[k]) (by omega) ik r3 r5 i3 i4
    have q33 := es_p3 (a := 79) (b := 78) r1 i1 (by decide) (by decide)
    have q39 := es_p3 (a := 52) (b := 55) r7 i5 (by decide) (by decide)
    have q45 := es_p4 (a := 65) (b := 65) (d := 65) r9 i6 (by decide) (by decide) (by decide)
    refine w_skip ?_
    refine t_norm ?_
    refine w_seq ?_
    refine w_block ?_
    refine w_seq ?_
    refine rg_text ?_
    refine x_val rfl rfl rfl (v_move rfl) ?_
    refine x_val rfl rfl rfl (v_indexAddr Tryz.underlying28 sz25 (congrArg (fun A => some (Value.slice A ls.length cp)) hA) rfl (hkl) rfl) ?_
    refine x_val rfl rfl rfl (v_loadN (vs := ls[k].cells) Tryz.underlying25 rfl sz25 rfl (fun j hj => at_ro (.tail _ (.head _)) trivial (hc j hj))) ?_
    refine x_alloc rfl rfl rfl zr25 ?_
    intro p7
    refine x_val rfl rfl rfl (v_assign rfl) ?_
    refine x_store0 [] rfl rfl rfl rfl sz25 rfl rfl ?_
    refine x_end ?_
    refine t_norm ?_
    refine rg_draw 28 [(true, 0), (true, 1), (true, 2), (true, 3), (true, 4), (true, 5), (true, 6), (true, 9), (true, 10), (true, 15), (true, 16), (true, 21), (true, 22), (false, 7), (false, 8), (true, 11), (true, 12), (false, 13), (false, 14), (true, 17), (true, 18), (false, 19), (false, 20), (true, 23), (true, 24), (false, 25), (false, 26), (false, 27)] (by kernel_rfl) (by kernel_rfl) ?_
    refine x_val rfl rfl rfl (v_move rfl) ?_
    refine x_val rfl rfl rfl (v_move rfl) ?_
    refine x_val rfl rfl rfl (v_addi (c := ((k + 1 : Nat) : Int)) rfl rfl (by omega) (by omega)) ?_
    refine x_callv rfl rfl rfl Tryz.func32 (by kernel_rfl) rfl (fun w1 hw1 => c_number ((k + 1 : Nat) : Int) w1 ik (hL.later (hw1.base (by simp)))) ?_
    refine x_val rfl rfl rfl (v_fieldAddr (off' := 2) Tryz.underlying25 rfl sz23 (by decide) rfl rfl) ?_
    refine x_val rfl rfl rfl (v_loadN (vs := [Value.int .i64 ls[k].src, .int .i64 ls[k].num]) Tryz.underlying23 rfl sz23 rfl (fun j hj => at_ownL (vs := ls[k].cells) (by repeat (first | exact List.Mem.head _ | apply List.Mem.tail)) (by match j, hj with | 0, _ => rfl | 1, _ => rfl))) ?_
    refine x_callv rfl rfl rfl Tryz.func33 (by kernel_rfl) rfl (fun w1 hw1 => c_article ls[k].src ls[k].num w1 i3 i4 (hL.later (hw1.base (by simp)))) ?_
    refine x_val rfl rfl rfl (v_fieldAddr (off' := 0) Tryz.underlying25 rfl sz3 (by decide) rfl rfl) ?_
    refine x_val rfl rfl rfl (v_load Tryz.underlying3 rfl rfl (at_ownL (vs := ls[k].cells) (by repeat (first | exact List.Mem.head _ | apply List.Mem.tail)) rfl)) ?_
    refine x_val rfl rfl rfl (v_fieldAddr (off' := 4) Tryz.underlying25 rfl sz3 (by decide) rfl rfl) ?_
    refine x_val rfl rfl rfl (v_load Tryz.underlying3 rfl rfl (at_ownL (vs := ls[k].cells) (by repeat (first | exact List.Mem.head _ | apply List.Mem.tail)) rfl)) ?_
    refine x_val rfl rfl rfl (v_fieldAddr (off' := 5) Tryz.underlying25 rfl sz3 (by decide) rfl rfl) ?_
    refine x_val rfl rfl rfl (v_load Tryz.underlying3 rfl rfl (at_ownL (vs := ls[k].cells) (by repeat (first | exact List.Mem.head _ | apply List.Mem.tail)) rfl)) ?_
    refine x_buildSliceL (cs := [Value.string (itoaS ((k + 1 : Nat) : Int)), Value.string (⟨#[]⟩), Value.string (artS ls[k].src ls[k].num)]) rfl rfl rfl Tryz.underlying54 sz9 zr9 rfl rfl rfl ?_
    intro p27
    refine x_call (R := fun v wa wb => ∃ A c, v = .agg #[.string ⟨#[76, 73, 78]⟩, .slice A 3 c] ∧ sliceRd (tySlice tyStr) (fun b => wa.heap.size ≤ b) wb (.slice A 3 c) [[itoaS ((k + 1 : Nat) : Int)], [⟨#[]⟩], [recT ls[k].src ls[k].num, ⟨#[83, 82, 86]⟩]]) rfl rfl rfl Tryz.func31 (by kernel_rfl) rfl (fun w1 hw1 => (c_segment (es := [itoaS ((k + 1 : Nat) : Int), ⟨#[]⟩, artS ls[k].src ls[k].num]) (D := fun _ => True) ⟨#[76, 73, 78]⟩ w1 (rowS_rd (e := 9) (r := some (p27, [Value.string (itoaS ((k + 1 : Nat) : Int)), Value.string (⟨#[]⟩), Value.string (artS ls[k].src ls[k].num)], 3)) (n := 3) (rowOK_lit rfl (by decide)) rfl (fun s hs => ok_of (q27.2 s hs)) hw1 (fun q hq => by rw [List.mem_singleton.1 hq]; exact (by repeat (first | exact List.Mem.head _ | apply List.Mem.tail))) (fun _ _ => trivial)) (fun s hs => Nat.le_trans (q27.2 s hs) (by decide)) (by show 3 ≤ 1000; decide) (hL.later (hw1.base (by simp)))).mono fun e w2 ⟨u, h1, h2, h3⟩ => seg_out h1 h2 (q27.1 ▸ h3)) ?_
    intro v28 wa28 wb28 hm28 hl28 hR28
    obtain ⟨A28, c28, rfl, hs28⟩ := hR28
    refine x_callv rfl rfl rfl Tryz.func32 (by kernel_rfl) rfl (fun w1 hw1 => c_number ls[k].id w1 i1 (hL.later (hw1.base (by simp)))) ?_
    refine x_val rfl rfl rfl (v_sadd rfl rfl (by show 3 + (itoaS _).size ≤ _; omega)) ?_
    refine x_buildSliceL (cs := [Value.string ((⟨#[79, 78, 58]⟩ : ByteArray) ++ itoaS ls[k].id)]) rfl rfl rfl Tryz.underlying54 sz9 zr9 rfl rfl rfl ?_
    intro p33
    refine x_call (R := fun v wa wb => ∃ A c, v = .agg #[.string ⟨#[82, 70, 70]⟩, .slice A 1 c] ∧ sliceRd (tySlice tyStr) (fun b => wa.heap.size ≤ b) wb (.slice A 1 c) [[⟨#[79, 78]⟩, itoaS ls[k].id]]) rfl rfl rfl Tryz.func31 (by kernel_rfl) rfl (fun w1 hw1 => (c_segment (es := [(⟨#[79, 78, 58]⟩ : ByteArray) ++ itoaS ls[k].id]) (D := fun _ => True) ⟨#[82, 70, 70]⟩ w1 (rowS_rd (e := 9) (r := some (p33, [Value.string ((⟨#[79, 78, 58]⟩ : ByteArray) ++ itoaS ls[k].id)], 1)) (n := 1) (rowOK_lit rfl (by decide)) rfl (fun s hs => ok_of (q33.2 s hs)) hw1 (fun q hq => by rw [List.mem_singleton.1 hq]; exact (by repeat (first | exact List.Mem.head _ | apply List.Mem.tail))) (fun _ _ => trivial)) (fun s hs => Nat.le_trans (q33.2 s hs) (by decide)) (by show 1 ≤ 1000; decide) (hL.later (hw1.base (by simp)))).mono fun e w2 ⟨u, h1, h2, h3⟩ => seg_out h1 h2 (q33.1 ▸ h3)) ?_
    intro v34 wa34 wb34 hm34 hl34 hR34
    obtain ⟨A34, c34, rfl, hs34⟩ := hR34
    refine x_callv rfl rfl rfl Tryz.func32 (by kernel_rfl) rfl (fun w1 hw1 => c_number ls[k].copies w1 i5 (hL.later (hw1.base (by simp)))) ?_
    refine x_val rfl rfl rfl (v_sadd rfl rfl (by show 3 + (itoaS _).size ≤ _; omega)) ?_
    refine x_buildSliceL (cs := [Value.string ((⟨#[52, 55, 58]⟩ : ByteArray) ++ itoaS ls[k].copies)]) rfl rfl rfl Tryz.underlying54 sz9 zr9 rfl rfl rfl ?_
    intro p39
    refine x_call (R := fun v wa wb => ∃ A c, v = .agg #[.string ⟨#[81, 84, 89]⟩, .slice A 1 c] ∧ sliceRd (tySlice tyStr) (fun b => wa.heap.size ≤ b) wb (.slice A 1 c) [[⟨#[52, 55]⟩, itoaS ls[k].copies]]) rfl rfl rfl Tryz.func31 (by kernel_rfl) rfl (fun w1 hw1 => (c_segment (es := [(⟨#[52, 55, 58]⟩ : ByteArray) ++ itoaS ls[k].copies]) (D := fun _ => True) ⟨#[81, 84, 89]⟩ w1 (rowS_rd (e := 9) (r := some (p39, [Value.string ((⟨#[52, 55, 58]⟩ : ByteArray) ++ itoaS ls[k].copies)], 1)) (n := 1) (rowOK_lit rfl (by decide)) rfl (fun s hs => ok_of (q39.2 s hs)) hw1 (fun q hq => by rw [List.mem_singleton.1 hq]; exact (by repeat (first | exact List.Mem.head _ | apply List.Mem.tail))) (fun _ _ => trivial)) (fun s hs => Nat.le_trans (q39.2 s hs) (by decide)) (by show 1 ≤ 1000; decide) (hL.later (hw1.base (by simp)))).mono fun e w2 ⟨u, h1, h2, h3⟩ => seg_out h1 h2 (q39.1 ▸ h3)) ?_
    intro v40 wa40 wb40 hm40 hl40 hR40
    obtain ⟨A40, c40, rfl, hs40⟩ := hR40
    refine x_callv rfl rfl rfl Tryz.func32 (by kernel_rfl) rfl (fun w1 hw1 => c_number ls[k].price w1 i6 (hL.later (hw1.base (by simp)))) ?_
    refine x_val rfl rfl rfl (v_sadd rfl rfl (by show 4 + (itoaS _).size ≤ _; omega)) ?_
    refine x_buildSliceL (cs := [Value.string ((⟨#[65, 65, 65, 58]⟩ : ByteArray) ++ itoaS ls[k].price)]) rfl rfl rfl Tryz.underlying54 sz9 zr9 rfl rfl rfl ?_
    intro p45
    refine x_call (R := fun v wa wb => ∃ A c, v = .agg #[.string ⟨#[80, 82, 73]⟩, .slice A 1 c] ∧ sliceRd (tySlice tyStr) (fun b => wa.heap.size ≤ b) wb (.slice A 1 c) [[⟨#[65, 65, 65]⟩, itoaS ls[k].price]]) rfl rfl rfl Tryz.func31 (by kernel_rfl) rfl (fun w1 hw1 => (c_segment (es := [(⟨#[65, 65, 65, 58]⟩ : ByteArray) ++ itoaS ls[k].price]) (D := fun _ => True) ⟨#[80, 82, 73]⟩ w1 (rowS_rd (e := 9) (r := some (p45, [Value.string ((⟨#[65, 65, 65, 58]⟩ : ByteArray) ++ itoaS ls[k].price)], 1)) (n := 1) (rowOK_lit rfl (by decide)) rfl (fun s hs => ok_of (q45.2 s hs)) hw1 (fun q hq => by rw [List.mem_singleton.1 hq]; exact (by repeat (first | exact List.Mem.head _ | apply List.Mem.tail))) (fun _ _ => trivial)) (fun s hs => Nat.le_trans (q45.2 s hs) (by decide)) (by show 1 ≤ 1000; decide) (hL.later (hw1.base (by simp)))).mono fun e w2 ⟨u, h1, h2, h3⟩ => seg_out h1 h2 (q45.1 ▸ h3)) ?_
    intro v46 wa46 wb46 hm46 hl46 hR46
    obtain ⟨A46, c46, rfl, hs46⟩ := hR46
    refine x_buildSliceL (cs := ([[Value.string ⟨#[76, 73, 78]⟩, .slice A28 3 c28], [Value.string ⟨#[82, 70, 70]⟩, .slice A34 1 c34], [Value.string ⟨#[81, 84, 89]⟩, .slice A40 1 c40], [Value.string ⟨#[80, 82, 73]⟩, .slice A46 1 c46]] : List (List Value)).flatten) rfl rfl rfl Tryz.underlying29 sz49 zr49 rfl rfl rfl ?_
    intro p47
    obtain ⟨css, hcl, hrow, hrd⟩ := hT
    rw [hln] at hcl hrow
    refine x_append (e := 49) [(p47, Obj.cells ([[Value.string ⟨#[76, 73, 78]⟩, .slice A28 3 c28], [Value.string ⟨#[82, 70, 70]⟩, .slice A34 1 c34], [Value.string ⟨#[81, 84, 89]⟩, .slice A40 1 c40], [Value.string ⟨#[80, 82, 73]⟩, .slice A46 1 c46]] : List (List Value)).flatten.toArray 49), (p45, Obj.cells [Value.string ((⟨#[65, 65, 65, 58]⟩ : ByteArray) ++ itoaS ls[k].price)].toArray 9), (p39, Obj.cells [Value.string ((⟨#[52, 55, 58]⟩ : ByteArray) ++ itoaS ls[k].copies)].toArray 9), (p33, Obj.cells [Value.string ((⟨#[79, 78, 58]⟩ : ByteArray) ++ itoaS ls[k].id)].toArray 9), (p27, Obj.cells [Value.string (itoaS ((k + 1 : Nat) : Int)), Value.string (⟨#[]⟩), Value.string (artS ls[k].src ls[k].num)].toArray 9), (p7, Obj.cells ls[k].cells.toArray 25)] (l2 := []) R (len := 2 + 4 * k) (xs := css.flatten) rfl rfl rfl rfl (by rw [List.append_nil]; rfl) hrow Tryz.underlying29 ap49 rfl rfl (m := 4) (news := ([[Value.string ⟨#[76, 73, 78]⟩, .slice A28 3 c28], [Value.string ⟨#[82, 70, 70]⟩, .slice A34 1 c34], [Value.string ⟨#[81, 84, 89]⟩, .slice A40 1 c40], [Value.string ⟨#[80, 82, 73]⟩, .slice A46 1 c46]] : List (List Value)).flatten) (fun i hi => at_ownL (vs := ([[Value.string ⟨#[76, 73, 78]⟩, .slice A28 3 c28], [Value.string ⟨#[82, 70, 70]⟩, .slice A34 1 c34], [Value.string ⟨#[81, 84, 89]⟩, .slice A40 1 c40], [Value.string ⟨#[80, 82, 73]⟩, .slice A46 1 c46]] : List (List Value)).flatten) (.head _) (by rw [Nat.zero_add]; exact List.getElem?_eq_getElem hi)) rfl (by simp only [maxLen]; omega) (by omega) ?_
    intro R' hR'
    refine x_val rfl rfl rfl (v_assign rfl) ?_
    refine x_end ?_
    refine b_norm ?_
    refine t_norm ?_
    refine rg_text ?_
    refine x_val rfl rfl rfl (v_addi rfl rfl rfl (by first | omega | (dsimp only; omega))) ?_
    refine x_val rfl rfl rfl (v_move rfl) ?_
    refine x_end ?_
    rw [List.append_nil]
    have hsub : (rowO 49 R').Sublist ([(p47, Obj.cells ([[Value.string ⟨#[76, 73, 78]⟩, .slice A28 3 c28], [Value.string ⟨#[82, 70, 70]⟩, .slice A34 1 c34], [Value.string ⟨#[81, 84, 89]⟩, .slice A40 1 c40], [Value.string ⟨#[80, 82, 73]⟩, .slice A46 1 c46]] : List (List Value)).flatten.toArray 49), (p45, Obj.cells [Value.string ((⟨#[65, 65, 65, 58]⟩ : ByteArray) ++ itoaS ls[k].price)].toArray 9), (p39, Obj.cells [Value.string ((⟨#[52, 55, 58]⟩ : ByteArray) ++ itoaS ls[k].copies)].toArray 9), (p33, Obj.cells [Value.string ((⟨#[79, 78, 58]⟩ : ByteArray) ++ itoaS ls[k].id)].toArray 9), (p27, Obj.cells [Value.string (itoaS ((k + 1 : Nat) : Int)), Value.string (⟨#[]⟩), Value.string (artS ls[k].src ls[k].num)].toArray 9), (p7, Obj.cells ls[k].cells.toArray 25)] ++ rowO 49 R') := List.sublist_append_right _ _
    refine s_fix (rowO 49 R') hsub (fun w0 hm0 => ?_)
    have hmB := hm0.less hsub (fun _ h => h)
    have hT' := snocM (T := tySeg) (D := newD w (rowO 49 R')) (ws := w0) (ys := inv4 k ls[k]) hln hcl (fun j h1 h2 => tySeg.keep (hrd j h1 h2) (Kept.frz hm0 hsub (by simp))) hR' rfl (.cons (tySeg_mk (x := ⟨⟨#[76, 73, 78]⟩, [[itoaS ((k + 1 : Nat) : Int)], [⟨#[]⟩], [recT ls[k].src ls[k].num, ⟨#[83, 82, 86]⟩]]⟩) rfl (show (3 : Nat) ≤ 9223372036854775807 by decide) (hs28.keep (Kept.made hmB (by first | repeat (first | exact List.Mem.head _ | apply List.Mem.tail) | simp) hm28 (hm28.base (by simp)).size))) (.cons (tySeg_mk (x := ⟨⟨#[82, 70, 70]⟩, [[⟨#[79, 78]⟩, itoaS ls[k].id]]⟩) rfl (show (3 : Nat) ≤ 9223372036854775807 by decide) (hs34.keep (Kept.made hmB (by first | repeat (first | exact List.Mem.head _ | apply List.Mem.tail) | simp) hm34 (hm34.base (by simp)).size))) (.cons (tySeg_mk (x := ⟨⟨#[81, 84, 89]⟩, [[⟨#[52, 55]⟩, itoaS ls[k].copies]]⟩) rfl (show (3 : Nat) ≤ 9223372036854775807 by decide) (hs40.keep (Kept.made hmB (by first | repeat (first | exact List.Mem.head _ | apply List.Mem.tail) | simp) hm40 (hm40.base (by simp)).size))) (.cons (tySeg_mk (x := ⟨⟨#[80, 82, 73]⟩, [[⟨#[65, 65, 65]⟩, itoaS ls[k].price]]⟩) rfl (show (3 : Nat) ≤ 9223372036854775807 by decide) (hs46.keep (Kept.made hmB (by first | repeat (first | exact List.Mem.head _ | apply List.Mem.tail) | simp) hm46 (hm46.base (by simp)).size))) .nil))))
    exact l_norm (x := (k, R, ws)) (μ := fun q : Nat × RowS × World => ls.length - q.1) (k + 1, R', w0) ⟨by dsimp only; omega, by dsimp only; rw [linesX_take hkl]; exact hT'⟩ (by simp only; omega) (by dsimp only; rw [show 2 + 4 * (k + 1) = 2 + 4 * k + 4 by omega]; repeat (first | exact Sub.nil | refine Sub.cons rfl ?_)) (fun w1 h => h.less (List.Sublist.refl _) (fun q hq => by simp at hq ⊢; rcases hq with h | h; (· exact .inl h); simp [h]))
  · simp only [hb16, decide_eq_true_eq, decide_eq_false_iff_not, Bool.and_eq_true, Bool.or_eq_true, Bool.and_eq_false_iff, Bool.or_eq_false_iff, Bool.not_eq_true', Bool.not_eq_false', ne_eq, Decidable.not_not] at hc16
    obtain rfl : k = ls.length := by omega
    rw [List.take_length] at hT hln
    have q55 := es_p3 (a := 56) (b := 54) h0 hi (by decide) (by decide)
    have i61 : in64 ((4 * ls.length + 5 : Nat) : Int) := by unfold in64; omega
    have q61 := es_unt (n := ((4 * ls.length + 5 : Nat) : Int)) (by omega) i61
    refine w_exit ?_
    refine t_exit ?_
    refine t_exit ?_
    refine b_hit ?_
    refine t_norm ?_
    refine w_seq ?_
    refine rg_text ?_
    refine x_val rfl rfl rfl (v_move rfl) ?_
    refine x_buildSliceL (cs := [Value.string (⟨#[83]⟩)]) rfl rfl rfl Tryz.underlying54 sz9 zr9 rfl rfl rfl ?_
    intro p51
    refine x_call (R := fun v wa wb => ∃ A c, v = .agg #[.string ⟨#[85, 78, 83]⟩, .slice A 1 c] ∧ sliceRd (tySlice tyStr) (fun b => wa.heap.size ≤ b) wb (.slice A 1 c) [[⟨#[83]⟩]]) rfl rfl rfl Tryz.func31 (by kernel_rfl) rfl (fun w1 hw1 => (c_segment (es := [⟨#[83]⟩]) (D := fun _ => True) ⟨#[85, 78, 83]⟩ w1 (rowS_rd (e := 9) (r := some (p51, [Value.string (⟨#[83]⟩)], 1)) (n := 1) (rowOK_lit rfl (by decide)) rfl (fun s hs => ok_of (es_uns.2 s hs)) hw1 (fun q hq => by rw [List.mem_singleton.1 hq]; exact (by repeat (first | exact List.Mem.head _ | apply List.Mem.tail))) (fun _ _ => trivial)) (fun s hs => Nat.le_trans (es_uns.2 s hs) (by decide)) (by show 1 ≤ 1000; decide) (hL.later (hw1.base (by simp)))).mono fun e w2 ⟨u, h1, h2, h3⟩ => seg_out h1 h2 (es_uns.1 ▸ h3)) ?_
    intro v52 wa52 wb52 hm52 hl52 hR52
    obtain ⟨A52, c52, rfl, hs52⟩ := hR52
    refine x_val rfl rfl rfl (v_move rfl) ?_
    refine x_val rfl rfl rfl (v_sadd rfl rfl (by have := itoaS_size hi; show 3 + (itoaS _).size ≤ _; omega)) ?_
    refine x_buildSliceL (cs := [Value.string ((⟨#[56, 54, 58]⟩ : ByteArray) ++ itoaS n)]) rfl rfl rfl Tryz.underlying54 sz9 zr9 rfl rfl rfl ?_
    intro p55
    refine x_call (R := fun v wa wb => ∃ A c, v = .agg #[.string ⟨#[77, 79, 65]⟩, .slice A 1 c] ∧ sliceRd (tySlice tyStr) (fun b => wa.heap.size ≤ b) wb (.slice A 1 c) [[⟨#[56, 54]⟩, itoaS n]]) rfl rfl rfl Tryz.func31 (by kernel_rfl) rfl (fun w1 hw1 => (c_segment (es := [(⟨#[56, 54, 58]⟩ : ByteArray) ++ itoaS n]) (D := fun _ => True) ⟨#[77, 79, 65]⟩ w1 (rowS_rd (e := 9) (r := some (p55, [Value.string ((⟨#[56, 54, 58]⟩ : ByteArray) ++ itoaS n)], 1)) (n := 1) (rowOK_lit rfl (by decide)) rfl (fun s hs => ok_of (q55.2 s hs)) hw1 (fun q hq => by rw [List.mem_singleton.1 hq]; exact (by repeat (first | exact List.Mem.head _ | apply List.Mem.tail))) (fun _ _ => trivial)) (fun s hs => Nat.le_trans (q55.2 s hs) (by decide)) (by show 1 ≤ 1000; decide) (hL.later (hw1.base (by simp)))).mono fun e w2 ⟨u, h1, h2, h3⟩ => seg_out h1 h2 (q55.1 ▸ h3)) ?_
    intro v56 wa56 wb56 hm56 hl56 hR56
    obtain ⟨A56, c56, rfl, hs56⟩ := hR56
    refine x_val rfl rfl rfl (v_move rfl) ?_
    refine x_val rfl rfl rfl (v_len_slice Tryz.underlying29 rfl) ?_
    refine x_val rfl rfl rfl (v_addi (c := ((4 * ls.length + 5 : Nat) : Int)) rfl rfl (by omega) (by omega)) ?_
    refine x_callv rfl rfl rfl Tryz.func32 (by kernel_rfl) rfl (fun w1 hw1 => c_number ((4 * ls.length + 5 : Nat) : Int) w1 i61 (hL.later (hw1.base (by simp)))) ?_
    refine x_buildSliceL (cs := [Value.string (itoaS ((4 * ls.length + 5 : Nat) : Int)), Value.string (⟨#[49]⟩)]) rfl rfl rfl Tryz.underlying54 sz9 zr9 rfl rfl rfl ?_
    intro p61
    refine x_call (R := fun v wa wb => ∃ A c, v = .agg #[.string ⟨#[85, 78, 84]⟩, .slice A 2 c] ∧ sliceRd (tySlice tyStr) (fun b => wa.heap.size ≤ b) wb (.slice A 2 c) [[itoaS ((4 * ls.length + 5 : Nat) : Int)], [⟨#[49]⟩]]) rfl rfl rfl Tryz.func31 (by kernel_rfl) rfl (fun w1 hw1 => (c_segment (es := [itoaS ((4 * ls.length + 5 : Nat) : Int), ⟨#[49]⟩]) (D := fun _ => True) ⟨#[85, 78, 84]⟩ w1 (rowS_rd (e := 9) (r := some (p61, [Value.string (itoaS ((4 * ls.length + 5 : Nat) : Int)), Value.string (⟨#[49]⟩)], 2)) (n := 2) (rowOK_lit rfl (by decide)) rfl (fun s hs => ok_of (q61.2 s hs)) hw1 (fun q hq => by rw [List.mem_singleton.1 hq]; exact (by repeat (first | exact List.Mem.head _ | apply List.Mem.tail))) (fun _ _ => trivial)) (fun s hs => Nat.le_trans (q61.2 s hs) (by decide)) (by show 2 ≤ 1000; decide) (hL.later (hw1.base (by simp)))).mono fun e w2 ⟨u, h1, h2, h3⟩ => seg_out h1 h2 (q61.1 ▸ h3)) ?_
    intro v62 wa62 wb62 hm62 hl62 hR62
    obtain ⟨A62, c62, rfl, hs62⟩ := hR62
    refine x_buildSliceL (cs := ([[Value.string ⟨#[85, 78, 83]⟩, .slice A52 1 c52], [Value.string ⟨#[77, 79, 65]⟩, .slice A56 1 c56], [Value.string ⟨#[85, 78, 84]⟩, .slice A62 2 c62]] : List (List Value)).flatten) rfl rfl rfl Tryz.underlying29 sz49 zr49 rfl rfl rfl ?_
    intro p63
    obtain ⟨css, hcl, hrow, hrd⟩ := hT
    rw [hln] at hcl hrow
    refine x_append (e := 49) [(p63, Obj.cells ([[Value.string ⟨#[85, 78, 83]⟩, .slice A52 1 c52], [Value.string ⟨#[77, 79, 65]⟩, .slice A56 1 c56], [Value.string ⟨#[85, 78, 84]⟩, .slice A62 2 c62]] : List (List Value)).flatten.toArray 49), (p61, Obj.cells [Value.string (itoaS ((4 * ls.length + 5 : Nat) : Int)), Value.string (⟨#[49]⟩)].toArray 9), (p55, Obj.cells [Value.string ((⟨#[56, 54, 58]⟩ : ByteArray) ++ itoaS n)].toArray 9), (p51, Obj.cells [Value.string (⟨#[83]⟩)].toArray 9)] (l2 := []) R (len := 2 + 4 * ls.length) (xs := css.flatten) rfl rfl rfl rfl (by rw [List.append_nil]; rfl) hrow Tryz.underlying29 ap49 rfl rfl (m := 3) (news := ([[Value.string ⟨#[85, 78, 83]⟩, .slice A52 1 c52], [Value.string ⟨#[77, 79, 65]⟩, .slice A56 1 c56], [Value.string ⟨#[85, 78, 84]⟩, .slice A62 2 c62]] : List (List Value)).flatten) (fun i hi => at_ownL (vs := ([[Value.string ⟨#[85, 78, 83]⟩, .slice A52 1 c52], [Value.string ⟨#[77, 79, 65]⟩, .slice A56 1 c56], [Value.string ⟨#[85, 78, 84]⟩, .slice A62 2 c62]] : List (List Value)).flatten) (.head _) (by rw [Nat.zero_add]; exact List.getElem?_eq_getElem hi)) rfl (by simp only [maxLen]; omega) (by omega) ?_
    intro R' hR'
    refine x_val rfl rfl rfl (v_assign rfl) ?_
    refine x_end ?_
    refine t_norm ?_
    refine w_ret ?_
    rw [List.append_nil]
    refine ret1 rfl rfl (fun w' hm => ⟨_, rfl, hm.base (by simp), ?_⟩)
    have hsub := List.sublist_append_right ([(p63, Obj.cells ([[Value.string ⟨#[85, 78, 83]⟩, .slice A52 1 c52], [Value.string ⟨#[77, 79, 65]⟩, .slice A56 1 c56], [Value.string ⟨#[85, 78, 84]⟩, .slice A62 2 c62]] : List (List Value)).flatten.toArray 49), (p61, Obj.cells [Value.string (itoaS ((4 * ls.length + 5 : Nat) : Int)), Value.string (⟨#[49]⟩)].toArray 9), (p55, Obj.cells [Value.string ((⟨#[56, 54, 58]⟩ : ByteArray) ++ itoaS n)].toArray 9), (p51, Obj.cells [Value.string (⟨#[83]⟩)].toArray 9)] : List (Nat × Obj)) (rowO 49 R')
    have hmB := hm.less hsub (fun _ h => h)
    have hT' := snocM (T := tySeg) (D := newD w (rowO 49 R')) (ws := w') (ys := tailX ls.length (itoaS n)) hln hcl (fun j h1 h2 => tySeg.keep (hrd j h1 h2) (Kept.frz hm hsub (by simp))) hR' rfl (.cons (tySeg_mk (x := ⟨⟨#[85, 78, 83]⟩, [[⟨#[83]⟩]]⟩) rfl (show (3 : Nat) ≤ 9223372036854775807 by decide) (hs52.keep (Kept.made hmB (by first | repeat (first | exact List.Mem.head _ | apply List.Mem.tail) | simp) hm52 (hm52.base (by simp)).size))) (.cons (tySeg_mk (x := ⟨⟨#[77, 79, 65]⟩, [[⟨#[56, 54]⟩, itoaS n]]⟩) rfl (show (3 : Nat) ≤ 9223372036854775807 by decide) (hs56.keep (Kept.made hmB (by first | repeat (first | exact List.Mem.head _ | apply List.Mem.tail) | simp) hm56 (hm56.base (by simp)).size))) (.cons (tySeg_mk (x := ⟨⟨#[85, 78, 84]⟩, [[itoaS ((4 * ls.length + 5 : Nat) : Int)], [⟨#[49]⟩]]⟩) rfl (show (3 : Nat) ≤ 9223372036854775807 by decide) (hs62.keep (Kept.made hmB (by first | repeat (first | exact List.Mem.head _ | apply List.Mem.tail) | simp) hm62 (hm62.base (by simp)).size))) .nil)))
    exact hT'.rd (e := 49) hmB (fun q hq => hq) (fun _ h => h.1) (fun q hq => hmB.newer (by simp) hq) (by rw [List.length_append, hln]; rfl)
theorem c_withTotalT {v : Value} {ls : List PK.Ord} {D : Nat → Prop} (w : World) (hls : sliceRd tyOrd D w v ls) (n : Int) {t : ByteArray} (hw : ∀ o ∈ ls, wrO (pf o)) (hn : ls.length ≤ 1000) (h0 : 0 ≤ n) (hi : in64 n) (hL : LD w) (ht : itoaS n = t) : Calls Tryz.prog 44 #[v, .string t] w fun e w' => ∃ q, e = .returned q ∧ Later w w' ∧ sliceRd tySeg (fun b => w.heap.size ≤ b) w' q (withX ls t) := by
  subst ht; exact c_withTotal w hls n hw hn h0 hi hL
set_option maxRecDepth 100000 in
theorem c_Invoice {v : Value} {ls : List PK.Ord} {D : Nat → Prop} (w : World) (hls : sliceRd tyOrd D w v ls) (hL : LD w) :
    Calls Tryz.prog 16 #[v] w fun e w' => ∃ q, e = .returned q ∧ Later w w' ∧ sliceRd tySeg (fun b => w.heap.size ≤ b) w' q (invR ls) ∧ ((invR ls).length = 0 → q = .slice none 0 0) := by
  obtain ⟨A, cp, rfl, hlc, hmx, _⟩ := id hls
  have ilen : in64 ((ls.length : Nat) : Int) := by unfold in64; omega
  refine enter (vs := [Value.slice A ls.length cp]) Tryz.func16 rfl Tryz.ntmps16 rfl ?_
  refine w_seq ?_
  refine rg_text ?_
  refine x_val rfl rfl rfl (v_assign rfl) ?_
  refine x_end ?_
  refine t_norm ?_
  refine w_seq ?_
  refine w_seq ?_
  refine rg_text ?_
  refine x_val rfl rfl rfl (v_move rfl) ?_
  refine x_val rfl rfl rfl (v_len_slice Tryz.underlying28 rfl) ?_
  refine x_buildSliceL (cs := [Value.int .i64 ((ls.length : Nat) : Int)]) rfl rfl rfl Tryz.underlying113 sz3 zr3 rfl rfl rfl ?_
  intro p8
  refine x_callb rfl rfl rfl Tryz.func43 (by kernel_rfl) rfl (fun w1 hw1 => c_within 1 999 w1 (rowI_rd (D := fun _ => True) (e := 3) (r := some (p8, [Value.int .i64 ((ls.length : Nat) : Int)], 1)) (n := 1) (ds := [((ls.length : Nat) : Int)]) (rowOK_lit rfl (by decide)) rfl (by simpa using ilen) hw1 (fun q hq => by rw [List.mem_singleton.1 hq]; exact .head _) (fun _ _ => trivial))) ?_
  intro b9 hb9
  refine x_bool rfl rfl rfl (v_not rfl) ?_
  intro b10 hb10
  refine x_end ?_
  refine t_norm ?_
  refine w_cond rfl (fun hc10 => ?_) (fun hc10 => ?_)
  · have hno : ¬payP ls := fun ⟨q1, q2, _⟩ => by
      rw [hb10, hb9] at hc10
      simp [wi] at hc10
      omega
    refine w_seq ?_
    refine rg_text ?_
    refine x_val rfl rfl rfl (v_assign rfl) ?_
    refine x_end ?_
    refine t_norm ?_
    refine w_ret ?_
    refine t_ret ?_
    refine ret1 rfl rfl (fun w' hm => ?_)
    rw [show invR ls = [] from by unfold invR; rw [if_neg hno]]
    exact ⟨_, rfl, hm.base (by simp), sliceRd_nil, fun _ => rfl⟩
  · have hlen : 1 ≤ ls.length ∧ ls.length ≤ 999 := by
      rw [hb10, hb9] at hc10
      simp [wi] at hc10
      omega
    refine w_skip ?_
    refine t_norm ?_
    refine w_seq ?_
    refine rg_text ?_
    refine x_val rfl rfl rfl (v_assign rfl) ?_
    refine x_end ?_
    refine t_norm ?_
    refine w_seq ?_
    refine w_seq ?_
    refine rg_text ?_
    refine x_val rfl rfl rfl (v_move rfl) ?_
    refine x_val rfl rfl rfl (v_len_slice Tryz.underlying28 rfl) ?_
    refine x_val rfl rfl rfl (v_move rfl) ?_
    refine x_end ?_
    refine t_norm ?_
    refine w_block ?_
    refine w_loop (σ := Nat) (fun k => k ≤ ls.length ∧ ∀ o ∈ ls.take k, wrO (pf o)) (fun k => [(0, Value.slice A ls.length cp), (3, Value.int .i64 (totalP (ls.take k))), (11, Value.slice A ls.length cp), (12, Value.int .i64 (ls.length : Nat)), (13, Value.int .i64 (k : Nat))]) (fun k => []) (fun k => [(w, fun _ => True)]) (fun k => ls.length - k) (0) (⟨Nat.zero_le _, fun o ho => by simp at ho⟩) (l_start (by repeat (first | exact Sub.nil | refine Sub.cons rfl ?_)) (fun _ h => h.less (List.nil_sublist _) (fun _ h => h))) ?_
    rintro k ⟨hk, hwr⟩
    refine w_state ([(0, Value.slice A ls.length cp), (3, Value.int .i64 (totalP (ls.take k))), (11, Value.slice A ls.length cp), (12, Value.int .i64 (ls.length : Nat)), (13, Value.int .i64 (k : Nat))]) ([]) ([(w, fun _ => True)]) ?_
    refine w_seq ?_
    refine rg_text ?_
    refine x_bool rfl rfl rfl (v_lss rfl rfl) ?_
    intro b14 hb14
    refine x_end ?_
    refine t_norm ?_
    refine w_seq ?_
    refine w_cond rfl (fun hc14 => ?_) (fun hc14 => ?_)
    · simp only [hb14, decide_eq_true_eq, decide_eq_false_iff_not, Bool.and_eq_true, Bool.or_eq_true, Bool.and_eq_false_iff, Bool.or_eq_false_iff, Bool.not_eq_true', Bool.not_eq_false', ne_eq, Decidable.not_not] at hc14
      have hkl : k < ls.length := by omega
      obtain ⟨ob, oo, hA, _, hc, hoA⟩ := ord_at hls hkl
      refine w_skip ?_
      refine t_norm ?_
      refine w_seq ?_
      refine w_block ?_
      refine w_seq ?_
      refine rg_text ?_
      refine x_val rfl rfl rfl (v_indexAddr Tryz.underlying28 sz25 (congrArg (fun A => some (Value.slice A ls.length cp)) hA) rfl (hkl) rfl) ?_
      refine x_val rfl rfl rfl (v_loadN (vs := ls[k].cells) Tryz.underlying25 rfl sz25 rfl (fun j hj => at_ro (.head _) trivial (hc j hj))) ?_
      refine x_alloc rfl rfl rfl zr25 ?_
      intro p5
      refine x_store0 [] rfl rfl rfl rfl sz25 rfl rfl ?_
      refine x_end ?_
      refine t_norm ?_
      refine w_seq ?_
      refine rg_text ?_
      refine x_val rfl rfl rfl (v_fieldAddr (off' := 1) Tryz.underlying25 rfl sz3 (by decide) rfl rfl) ?_
      refine x_store [] rfl rfl rfl rfl sz3 rfl (by show 2 ≤ 9; decide) ?_
      refine x_end ?_
      refine t_norm ?_
      refine w_seq ?_
      refine w_seq ?_
      refine w_state _ [(p5, Obj.cells (pf ls[k]).cells.toArray 25)] _ ?_
      refine rg_text ?_
      refine x_val rfl rfl rfl (v_load_blk (e := 25) (fz := (0, 0)) (cs := (pf ls[k]).cells.toArray) Tryz.underlying25 rfl rfl (.head _) sz25) ?_
      refine x_callb rfl rfl rfl Tryz.func30 (by kernel_rfl) rfl (fun w1 hw1 => c_writable (pf ls[k]) w1 (pf_ok hoA)) ?_
      intro b19 hb19
      refine x_bool rfl rfl rfl (v_not rfl) ?_
      intro b20 hb20
      refine x_end ?_
      refine t_norm ?_
      refine w_cond rfl (fun hc20 => ?_) (fun hc20 => ?_)
      · have hno : ¬payP ls := fun ⟨_, _, q⟩ => by
          rw [hb20, hb19, (writB_iff _).2 (q ls[k] (List.getElem_mem hkl))] at hc20
          cases hc20
        refine w_seq ?_
        refine rg_text ?_
        refine x_val rfl rfl rfl (v_assign rfl) ?_
        refine x_end ?_
        refine t_norm ?_
        refine w_ret ?_
        refine t_ret ?_
        refine b_ret ?_
        refine t_ret ?_
        refine t_ret ?_
        refine b_ret ?_
        refine t_ret ?_
        refine ret1 rfl rfl (fun w' hm => ?_)
        rw [show invR ls = [] from by unfold invR; rw [if_neg hno]]
        exact ⟨_, rfl, hm.base (by simp), sliceRd_nil, fun _ => rfl⟩
      · have hyes : wrO (pf ls[k]) := by
          rw [hb20, hb19] at hc20
          exact (writB_iff _).1 (by simpa using hc20)
        obtain ⟨g1, g2, _⟩ := line_rng hyes
        obtain ⟨t1, t2⟩ := total_le hwr
        rw [List.length_take] at t2
        have hst : totalP (ls.take (k + 1)) = totalP (ls.take k) + ls[k].copies * ls[k].price := by rw [take_snoc hkl, totalP_snoc]
        refine w_skip ?_
        refine t_norm ?_
        refine rg_text ?_
        refine x_val rfl rfl rfl (v_move rfl) ?_
        refine x_val rfl rfl rfl (v_fieldAddr (off' := 4) Tryz.underlying25 rfl sz3 (by decide) rfl rfl) ?_
        refine x_val rfl rfl rfl (v_load Tryz.underlying3 rfl rfl (at_ownL (vs := (pf ls[k]).cells) (.head _) rfl)) ?_
        refine x_val rfl rfl rfl (v_fieldAddr (off' := 5) Tryz.underlying25 rfl sz3 (by decide) rfl rfl) ?_
        refine x_val rfl rfl rfl (v_load Tryz.underlying3 rfl rfl (at_ownL (vs := (pf ls[k]).cells) (.head _) rfl)) ?_
        refine x_val rfl rfl rfl (v_muli (c := ls[k].copies * ls[k].price) rfl rfl rfl (by omega)) ?_
        refine x_val rfl rfl rfl (v_addi (c := totalP (ls.take (k + 1))) rfl rfl hst.symm (by rw [hst]; omega)) ?_
        refine x_val rfl rfl rfl (v_assign rfl) ?_
        refine x_end ?_
        refine b_norm ?_
        refine t_norm ?_
        refine rg_text ?_
        refine x_val rfl rfl rfl (v_addi rfl rfl rfl (by first | omega | (dsimp only; omega))) ?_
        refine x_val rfl rfl rfl (v_move rfl) ?_
        refine x_end ?_
        exact l_norm (k + 1) ⟨by omega, take_all_wr hkl hwr hyes⟩ (by omega) (by repeat (first | exact Sub.nil | refine Sub.cons rfl ?_)) (fun w1 h => h.less (List.nil_sublist _) (fun _ h => h))
    · simp only [hb14, decide_eq_true_eq, decide_eq_false_iff_not, Bool.and_eq_true, Bool.or_eq_true, Bool.and_eq_false_iff, Bool.or_eq_false_iff, Bool.not_eq_true', Bool.not_eq_false', ne_eq, Decidable.not_not] at hc14
      obtain rfl : k = ls.length := by omega
      rw [List.take_length] at hwr
      rw [List.take_length]
      have hyes : payP ls := ⟨hlen.1, hlen.2, hwr⟩
      obtain ⟨t1, t2⟩ := total_le hwr
      have it : in64 (totalP ls) := by unfold in64; omega
      refine w_exit ?_
      refine t_exit ?_
      refine t_exit ?_
      refine b_hit ?_
      refine t_norm ?_
      refine w_seq ?_
      refine rg_text ?_
      refine x_val rfl rfl rfl (v_move rfl) ?_
      refine x_val rfl rfl rfl (v_move rfl) ?_
      refine x_callv rfl rfl rfl Tryz.func32 (by kernel_rfl) rfl (fun w1 hw1 => c_number (totalP ls) w1 it (hL.later (hw1.base (by simp)))) ?_
      refine x_call (R := fun v wa wb => sliceRd tySeg (fun b => wa.heap.size ≤ b) wb v (withX ls (itoaS (totalP ls)))) rfl rfl rfl Tryz.func44 (by kernel_rfl) rfl (fun w1 hw1 => (c_withTotal w1 (hls.keep (Kept.later (hw1.base (by simp)))) (totalP ls) hwr (by omega) t1 it (hL.later (hw1.base (by simp)))).mono fun e w2 ⟨v, h1, h2, h3⟩ => ⟨_, h1, h2, h3⟩) ?_
      intro v32 wa32 wb32 hm32 hl32 hR32
      refine x_val rfl rfl rfl (v_assign rfl) ?_
      refine x_end ?_
      refine t_norm ?_
      refine w_ret ?_
      refine ret1 rfl rfl (fun w' hm => ?_)
      rw [show invR ls = withX ls (itoaS (totalP ls)) from by unfold invR; rw [if_pos hyes]]
      exact ⟨_, rfl, hm.base (by simp), hR32.keep (Kept.made0 hm hm32 (by simp) (by simp)), fun h => by rw [withX_len] at h; omega⟩
set_option maxHeartbeats 1000000 in
set_option maxRecDepth 100000 in
theorem c_RdIA {v : Value} {l : List Seg} {D : Nat → Prop} (w : World) (hl : sliceRd tySeg D w v l) (hbig : bigO l) (hL : LD w) (hC : 0 ≤ readP (totE l) ∧ itoaS (readP (totE l)) = totE l) :
    Calls Tryz.prog 18 #[v] w fun e w' => ∃ q, e = .returned (.tuple #[q, .int .i64 (rdI l).2]) ∧ Later w w' ∧ sliceRd tyOrd (fun b => w.heap.size ≤ b) w' q (rdI l).1 := by
  obtain ⟨A, cp, rfl, hlc, hmx, _⟩ := id hl
  refine enter (vs := [Value.slice A l.length cp]) Tryz.func18 rfl Tryz.ntmps18 rfl ?_
  refine w_seq ?_
  refine rg_text ?_
  refine x_val rfl rfl rfl (v_assign rfl) ?_
  refine x_val rfl rfl rfl (v_assign rfl) ?_
  refine x_end ?_
  refine t_norm ?_
  refine w_seq ?_
  refine rg_text ?_
  refine x_val rfl rfl rfl (v_assign rfl) ?_
  refine x_end ?_
  refine t_norm ?_
  refine w_seq ?_
  refine w_seq ?_
  refine rg_text ?_
  refine x_val rfl rfl rfl (v_assign rfl) ?_
  refine x_end ?_
  refine t_norm ?_
  refine w_block ?_
  refine w_loop (σ := Nat × RowS) (fun x => x.1 ≤ min 1000 ((l.length - 3) / 4) ∧ RowT tyOrd (fun _ => False) w x.2 ((List.range x.1).map (lineE l))) (fun x => [(0, Value.slice A l.length cp), (4, rowV x.2 x.1), (5, Value.int .i64 ((4 * x.1 + 2 : Nat) : Int))]) (fun x => rowO 25 x.2) (fun x => [(w, fun _ => True)]) (fun x => min 1000 ((l.length - 3) / 4) - x.1) ((0, none)) (⟨Nat.zero_le _, RowT.nil⟩) (l_start (by repeat (first | exact Sub.nil | refine Sub.cons rfl ?_)) (fun _ h => h)) ?_
  rintro ⟨k, R⟩ ⟨hk, hT⟩
  refine w_state ([(0, Value.slice A l.length cp), (4, rowV R k), (5, Value.int .i64 ((4 * k + 2 : Nat) : Int))]) (rowO 25 R) ([(w, fun _ => True)]) ?_
  dsimp only at hk hT
  have hln : ((List.range k).map (lineE l)).length = k := by simp
  refine w_seq ?_
  refine w_seq ?_
  refine rg_text ?_
  refine x_val rfl rfl rfl (v_move rfl) ?_
  refine x_val rfl rfl rfl (v_addi (c := ((4 * k + 6 : Nat) : Int)) rfl rfl (by omega) (by omega)) ?_
  refine x_val rfl rfl rfl (v_move rfl) ?_
  refine x_val rfl rfl rfl (v_len_slice Tryz.underlying29 rfl) ?_
  refine x_bool rfl rfl rfl (v_lss rfl rfl) ?_
  intro b13 hb13
  refine x_val rfl rfl rfl (v_move rfl) ?_
  refine x_if [] rfl rfl rfl rfl rfl (fun hg => by obtain ⟨hg0, _⟩ := hg; subst hg0; (try simp only [List.cons_append, List.nil_append, gvl_nil, gvl_t, gvl_f]); exact v_move rfl) ?_
  refine x_if [] rfl rfl rfl rfl rfl (fun hg => by obtain ⟨hg0, _⟩ := hg; subst hg0; (try simp only [List.cons_append, List.nil_append, gvl_nil, gvl_t, gvl_f]); exact v_len_slice Tryz.underlying28 rfl) ?_
  refine x_ifb [] rfl rfl rfl rfl rfl (fun hg => by obtain ⟨hg0, _⟩ := hg; subst hg0; (try simp only [List.cons_append, List.nil_append, gvl_nil, gvl_t, gvl_f]); exact v_leq rfl rfl) ?_
  intro b17 hb17
  refine x_bool rfl rfl rfl (v_and rfl rfl) ?_
  intro b18 hb18
  refine x_end ?_
  refine t_norm ?_
  refine w_cond rfl (fun hc18 => ?_) (fun hc18 => ?_)
  · simp only [hb18, hb17, hb13, decide_eq_true_eq, decide_eq_false_iff_not, Bool.and_eq_true, Bool.or_eq_true, Bool.and_eq_false_iff, Bool.or_eq_false_iff, Bool.not_eq_true', Bool.not_eq_false', ne_eq, Decidable.not_not] at hc18
    have hkc : k < min 1000 ((l.length - 3) / 4) := by omega
    refine w_skip ?_
    refine t_norm ?_
    refine w_seq ?_
    refine w_block ?_
    refine rg_text ?_
    refine x_val rfl rfl rfl (v_move rfl) ?_
    refine x_val rfl rfl rfl (v_move rfl) ?_
    refine x_val rfl rfl rfl (v_move rfl) ?_
    refine x_callv rfl rfl rfl Tryz.func40 (by kernel_rfl) rfl (fun w1 hw1 => c_text (4 * k + 2) 2 0 w1 (hl.keep (Kept.later (hw1.base (by simp))))) ?_
    refine x_callv rfl rfl rfl Tryz.func41 (by kernel_rfl) rfl (fun w1 hw1 => c_erec (txt l (4 * k + 2) 2 0) w1 (txt_sz hbig (4 * k + 2) 2 0) (hL.later (hw1.base (by simp)))) ?_
    refine x_val rfl rfl rfl (v_move rfl) ?_
    refine x_val rfl rfl rfl (v_move rfl) ?_
    refine x_val rfl rfl rfl (v_addi (c := ((4 * k + 3 : Nat) : Int)) rfl rfl (by omega) (by omega)) ?_
    refine x_callv rfl rfl rfl Tryz.func40 (by kernel_rfl) rfl (fun w1 hw1 => c_text (4 * k + 3) 0 1 w1 (hl.keep (Kept.later (hw1.base (by simp))))) ?_
    refine x_callv rfl rfl rfl Tryz.func39 (by kernel_rfl) rfl (fun w1 hw1 => c_read (txt l (4 * k + 3) 0 1) w1 (Nat.le_trans (txt_sz hbig (4 * k + 3) 0 1) (by decide)) (hL.later (hw1.base (by simp)))) ?_
    refine x_val rfl rfl rfl (v_move rfl) ?_
    refine x_val rfl rfl rfl (v_move rfl) ?_
    refine x_val rfl rfl rfl (v_addi (c := ((4 * k + 4 : Nat) : Int)) rfl rfl (by omega) (by omega)) ?_
    refine x_callv rfl rfl rfl Tryz.func40 (by kernel_rfl) rfl (fun w1 hw1 => c_text (4 * k + 4) 0 1 w1 (hl.keep (Kept.later (hw1.base (by simp))))) ?_
    refine x_callv rfl rfl rfl Tryz.func39 (by kernel_rfl) rfl (fun w1 hw1 => c_read (txt l (4 * k + 4) 0 1) w1 (Nat.le_trans (txt_sz hbig (4 * k + 4) 0 1) (by decide)) (hL.later (hw1.base (by simp)))) ?_
    refine x_val rfl rfl rfl (v_move rfl) ?_
    refine x_val rfl rfl rfl (v_move rfl) ?_
    refine x_val rfl rfl rfl (v_addi (c := ((4 * k + 5 : Nat) : Int)) rfl rfl (by omega) (by omega)) ?_
    refine x_callv rfl rfl rfl Tryz.func40 (by kernel_rfl) rfl (fun w1 hw1 => c_text (4 * k + 5) 0 1 w1 (hl.keep (Kept.later (hw1.base (by simp))))) ?_
    refine x_callv rfl rfl rfl Tryz.func39 (by kernel_rfl) rfl (fun w1 hw1 => c_read (txt l (4 * k + 5) 0 1) w1 (Nat.le_trans (txt_sz hbig (4 * k + 5) 0 1) (by decide)) (hL.later (hw1.base (by simp)))) ?_
    refine x_val rfl rfl rfl (v_buildL (places := [(0, 1), (1, 1), (2, 2), (4, 1), (5, 1), (6, 1), (7, 1), (8, 1)]) Tryz.underlying25 zr25 (by kernel_rfl) rfl rfl) ?_
    refine x_buildSliceL (cs := (lineE l k).cells) rfl rfl rfl Tryz.underlying28 sz25 zr25 rfl rfl rfl ?_
    intro p42
    obtain ⟨css, hcl, hrow, hrd⟩ := hT
    rw [hln] at hcl hrow
    refine x_append (e := 25) [(p42, Obj.cells (lineE l k).cells.toArray 25)] (l2 := []) R (len := k) (xs := css.flatten) rfl rfl rfl rfl (by rw [List.append_nil]; rfl) hrow Tryz.underlying28 ap25 rfl rfl (m := 1) (news := (lineE l k).cells) (fun i hi => at_ownL (vs := (lineE l k).cells) (.head _) (by rw [Nat.zero_add]; exact List.getElem?_eq_getElem hi)) rfl (by simp only [maxLen]; omega) (by omega) ?_
    intro R' hR'
    refine x_val rfl rfl rfl (v_assign rfl) ?_
    refine x_end ?_
    refine b_norm ?_
    refine t_norm ?_
    refine rg_text ?_
    refine x_val rfl rfl rfl (v_move rfl) ?_
    refine x_val rfl rfl rfl (v_addi (c := ((4 * k + 6 : Nat) : Int)) rfl rfl (by omega) (by omega)) ?_
    refine x_val rfl rfl rfl (v_assign rfl) ?_
    refine x_end ?_
    rw [List.append_nil]
    exact l_norm (x := (k, R)) (μ := fun q : Nat × RowS => min 1000 ((l.length - 3) / 4) - q.1) (k + 1, R') ⟨by dsimp only; omega, by dsimp only; rw [range_snoc]; exact snocN hln hcl hrd hR' ⟨rfl, lineE_okA l k⟩⟩ (by simp only; omega) (by dsimp only; rw [show 4 * (k + 1) + 2 = 4 * k + 6 by omega]; repeat (first | exact Sub.nil | refine Sub.cons rfl ?_)) (fun w1 h => h.less (List.sublist_append_right _ _) (fun _ h => h))
  · simp only [hb18, hb17, hb13, decide_eq_true_eq, decide_eq_false_iff_not, Bool.and_eq_true, Bool.or_eq_true, Bool.and_eq_false_iff, Bool.or_eq_false_iff, Bool.not_eq_true', Bool.not_eq_false', ne_eq, Decidable.not_not] at hc18
    obtain rfl : k = min 1000 ((l.length - 3) / 4) := by omega
    refine w_exit ?_
    refine t_exit ?_
    refine t_exit ?_
    refine b_hit ?_
    refine t_norm ?_
    refine w_seq ?_
    refine rg_text ?_
    refine x_val rfl rfl rfl (v_move rfl) ?_
    refine x_call (R := fun v wa wb => ∃ A1 c1, v = .slice A1 (invR (linesE l)).length c1 ∧ sliceRd tySeg (fun b => wa.heap.size ≤ b) wb (.slice A1 (invR (linesE l)).length c1) (invR (linesE l)) ∧ A1.isNone = decide ((invR (linesE l)).length = 0)) rfl rfl rfl Tryz.func16 (by kernel_rfl) rfl (fun w1 hw1 => (c_Invoice (ls := linesE l) w1 (hT.any (D' := fun _ => True) (e := 25) hw1 (fun q hq => hq) (fun _ _ => trivial) (by simp)) (hL.later (hw1.base (by simp)))).mono fun e w2 ⟨v, h1, h2, h3, h4⟩ => ord_out h1 h2 h3 h4) ?_
    intro v45 wa45 wb45 hm45 hl45 hR45
    obtain ⟨A1, c1, rfl, hr45, hn45⟩ := hR45
    refine x_val rfl rfl rfl (v_assign rfl) ?_
    refine x_end ?_
    refine t_norm ?_
    refine w_seq ?_
    refine w_seq ?_
    refine rg_text ?_
    refine x_val rfl rfl rfl (v_move rfl) ?_
    refine x_bool rfl rfl rfl (v_sliceNil Tryz.underlying29 rfl) ?_
    intro b47 hb47
    refine x_val rfl rfl rfl (v_move rfl) ?_
    refine x_if [] rfl rfl rfl rfl rfl (fun hg => by obtain ⟨hg0, _⟩ := hg; subst hg0; (try simp only [List.cons_append, List.nil_append, gvl_nil, gvl_t, gvl_f]); exact v_move rfl) ?_
    refine x_if [] rfl rfl rfl rfl rfl (fun hg => by obtain ⟨hg0, _⟩ := hg; subst hg0; (try simp only [List.cons_append, List.nil_append, gvl_nil, gvl_t, gvl_f]); exact v_len_slice Tryz.underlying29 rfl) ?_
    refine x_if [] rfl rfl rfl rfl rfl (fun hg => by obtain ⟨hg0, _⟩ := hg; subst hg0; (try simp only [List.cons_append, List.nil_append, gvl_nil, gvl_t, gvl_f]); exact v_move rfl) ?_
    refine x_if [] rfl rfl rfl rfl rfl (fun hg => by obtain ⟨hg0, _⟩ := hg; subst hg0; (try simp only [List.cons_append, List.nil_append, gvl_nil, gvl_t, gvl_f]); exact v_len_slice Tryz.underlying29 rfl) ?_
    refine x_ifb [] rfl rfl rfl rfl rfl (fun hg => by obtain ⟨hg0, _⟩ := hg; subst hg0; (try simp only [List.cons_append, List.nil_append, gvl_nil, gvl_t, gvl_f]); exact v_neq rfl rfl) ?_
    intro b53 hb53
    refine x_bool rfl rfl rfl (v_or rfl rfl) ?_
    intro b54 hb54
    refine x_end ?_
    refine t_norm ?_
    refine w_cond rfl (fun hc54 => ?_) (fun hc54 => ?_)
    · have hno : ¬(payP (linesE l) ∧ (invR (linesE l)).length = l.length) := fun ⟨q1, q2⟩ => by
        rw [hb54, hb53, hb47, hn45, q2] at hc54
        have q3 := invR_len (linesE l)
        rw [if_pos q1, q2] at q3
        simp at hc54
        rw [hc54] at q3
        simp at q3
      refine w_seq ?_
      refine rg_text ?_
      refine x_val rfl rfl rfl (v_assign rfl) ?_
      refine x_val rfl rfl rfl (v_assign rfl) ?_
      refine x_end ?_
      refine t_norm ?_
      refine w_ret ?_
      refine t_ret ?_
      refine ret2 rfl rfl rfl (fun w' hm => ?_)
      rw [show rdI l = ([], 11) from by unfold rdI; rw [if_neg hno]]
      exact ⟨_, rfl, hm.base (by simp), sliceRd_nil⟩
    · have hyes : (invR (linesE l)).length = l.length ∧ (invR (linesE l)).length ≠ 0 := by
        rw [hb54, hb53, hb47, hn45] at hc54
        simp only [Bool.or_eq_false_iff, decide_eq_false_iff_not, ne_eq, Decidable.not_not] at hc54
        exact ⟨by omega, hc54.1⟩
      obtain ⟨hle, hl0⟩ := hyes
      have hpay : payP (linesE l) := by
        apply Classical.byContradiction; intro q; apply hl0; rw [invR_len, if_neg q]
      obtain ⟨p1, p2, p3⟩ := id hpay
      have hl5 : l.length = 4 * (linesE l).length + 5 := by rw [← hle, invR_len, if_pos hpay]
      refine w_skip ?_
      refine t_norm ?_
      refine w_seq ?_
      refine rg_text ?_
      refine x_val rfl rfl rfl (v_move rfl) ?_
      refine x_val rfl rfl rfl (v_move rfl) ?_
      refine x_val rfl rfl rfl (v_len_slice Tryz.underlying29 rfl) ?_
      refine x_val rfl rfl rfl (v_subi (c := ((l.length - 2 : Nat) : Int)) rfl rfl (by omega) (by omega)) ?_
      refine x_callv rfl rfl rfl Tryz.func40 (by kernel_rfl) rfl (fun w1 hw1 => show Calls _ _ _ w1 (fun e w2 => e = .returned (.string (totE l)) ∧ Later w1 w2) from c_text (l.length - 2) 0 1 w1 (hl.keep (Kept.later (hw1.base (by simp))))) ?_
      refine x_val rfl rfl rfl (v_assign rfl) ?_
      refine x_end ?_
      refine t_norm ?_
      refine w_seq ?_
      refine w_seq ?_
      refine rg_text ?_
      refine x_val rfl rfl rfl (v_move rfl) ?_
      refine x_callv rfl rfl rfl Tryz.func39 (by kernel_rfl) rfl (fun w1 hw1 => c_read (totE l) w1 (Nat.le_trans (txt_sz hbig (l.length - 2) 0 1) (by decide)) (hL.later (hw1.base (by simp)))) ?_
      refine x_val rfl rfl rfl (v_assign rfl) ?_
      refine x_end ?_
      refine t_norm ?_
      refine w_block ?_
      refine w_seq ?_
      refine rg_text ?_
      refine x_val rfl rfl rfl (v_move rfl) ?_
      refine x_val rfl rfl rfl (v_move rfl) ?_
      refine x_callb rfl rfl rfl Tryz.func42 (by kernel_rfl) rfl (fun w1 hw1 => c_same (xs := invR (linesE l)) (ys := l) w1 (keep_new hr45 hw1 (by simp) hm45) (hl.keep (Kept.later (hw1.base (by simp))))) ?_
      intro b65 hb65
      refine x_val rfl rfl rfl (v_assign rfl) ?_
      refine x_end ?_
      refine t_norm ?_
      refine w_cond rfl (fun hc62 => ?_) (fun hc62 => ?_)
      · have hsame : invR (linesE l) = l := by rw [hb65] at hc62; simpa using hc62
        refine w_seq ?_
        refine rg_text ?_
        refine x_val rfl rfl rfl (v_move rfl) ?_
        refine x_val rfl rfl rfl (v_assign rfl) ?_
        refine x_val rfl rfl rfl (v_assign rfl) ?_
        refine x_end ?_
        refine t_norm ?_
        refine w_ret ?_
        refine b_ret ?_
        refine t_ret ?_
        refine ret2 rfl rfl rfl (fun w' hm => ?_)
        rw [show rdI l = (linesE l, 0) from by unfold rdI; rw [if_pos ⟨hpay, hle⟩, if_pos hsame]]
        exact ⟨_, rfl, hm.base (by simp), (hT.any (e := 25) hm (fun q hq => hq) (fun q hq => hm.newer (by simp) hq) (by simp))⟩
      · have hdiff : ¬invR (linesE l) = l := by rw [hb65] at hc62; simpa using hc62
        refine w_seq ?_
        refine rg_text ?_
        refine x_val rfl rfl rfl (v_move rfl) ?_
        refine x_bool rfl rfl rfl (v_geq rfl rfl) ?_
        intro b69 hb69
        obtain rfl : b69 = true := by rw [hb69]; exact decide_eq_true hC.1
        refine x_val rfl rfl rfl (v_move rfl) ?_
        refine x_if [] rfl rfl rfl rfl rfl (fun hg => by obtain ⟨hg0, _⟩ := hg; (try simp only [List.cons_append, List.nil_append, gvl_nil, gvl_t, gvl_f]); exact v_move rfl) ?_
        refine x_call_if [] rfl rfl rfl rfl rfl Tryz.func32 (by kernel_rfl) (fun hg => by obtain ⟨hg0, _⟩ := hg; (try simp only [List.cons_append, List.nil_append, gvl_nil, gvl_t, gvl_f]); refine ⟨_, rfl, ?_⟩; exact fun w1 hw1 => c_number (readP (totE l)) w1 (readP_in _) (hL.later (hw1.base (by simp)))) ?_
        refine x_if [] rfl rfl rfl rfl rfl (fun hg => by obtain ⟨hg0, _⟩ := hg; (try simp only [List.cons_append, List.nil_append, gvl_nil, gvl_t, gvl_f]); exact v_move rfl) ?_
        refine x_ifb [] rfl rfl rfl rfl rfl (fun hg => by obtain ⟨hg0, _⟩ := hg; (try simp only [List.cons_append, List.nil_append, gvl_nil, gvl_t, gvl_f]); exact v_seql rfl rfl) ?_
        intro b74 hb74
        obtain rfl : b74 = true := by rw [hb74]; exact decide_eq_true hC.2
        refine x_bool rfl rfl rfl (v_and rfl rfl) ?_
        intro b75 hb75
        obtain rfl : b75 = true := hb75
        refine x_val rfl rfl rfl (v_move rfl) ?_
        refine x_if [] rfl rfl rfl rfl rfl (fun hg => by obtain ⟨hg0, _⟩ := hg; (try simp only [List.cons_append, List.nil_append, gvl_nil, gvl_t, gvl_f]); exact v_move rfl) ?_
        refine x_if [] rfl rfl rfl rfl rfl (fun hg => by obtain ⟨hg0, _⟩ := hg; (try simp only [List.cons_append, List.nil_append, gvl_nil, gvl_t, gvl_f]); exact v_move rfl) ?_
        refine x_call_g (R := fun v wa wb => sliceRd tySeg (fun b => wa.heap.size ≤ b) wb v (withX (linesE l) (totE l))) rfl rfl rfl rfl rfl Tryz.func44 (by kernel_rfl) rfl (fun w1 hw1 => (c_withTotalT (ls := linesE l) w1 (hT.any (D' := fun _ => True) (e := 25) hw1 (fun q hq => hq) (fun _ _ => trivial) (by simp)) (readP (totE l)) p3 (by omega) hC.1 (readP_in _) (hL.later (hw1.base (by simp))) hC.2).mono fun e w2 ⟨v, h1, h2, h3⟩ => ⟨_, h1, h2, h3⟩) ?_
        intro v79 wa79 wb79 hm79 hl79 hR79
        refine x_if [] rfl rfl rfl rfl rfl (fun hg => by obtain ⟨hg0, _⟩ := hg; (try simp only [List.cons_append, List.nil_append, gvl_nil, gvl_t, gvl_f]); exact v_move rfl) ?_
        refine x_call_ifb [] rfl rfl rfl rfl rfl Tryz.func42 (by kernel_rfl) (fun hg => by obtain ⟨hg0, _⟩ := hg; (try simp only [List.cons_append, List.nil_append, gvl_nil, gvl_t, gvl_f]); refine ⟨_, rfl, ?_⟩; exact fun w1 hw1 => c_same (xs := withX (linesE l) (totE l)) (ys := l) w1 (keep_new hR79 hw1 (by simp) hm79) (hl.keep (Kept.later (hw1.base (by simp))))) ?_
        intro b81 hb81
        refine x_bool rfl rfl rfl (v_and rfl rfl) ?_
        intro b82 hb82
        refine x_val rfl rfl rfl (v_assign rfl) ?_
        refine x_end ?_
        refine t_norm ?_
        refine w_cond rfl (fun hc67 => ?_) (fun hc67 => ?_)
        · have hw60 : withX (linesE l) (totE l) = l := by
            rw [hb82, hb81] at hc67
            simpa using hc67
          refine w_seq ?_
          refine rg_text ?_
          refine x_val rfl rfl rfl (v_assign rfl) ?_
          refine x_val rfl rfl rfl (v_assign rfl) ?_
          refine x_end ?_
          refine t_norm ?_
          refine w_ret ?_
          refine b_ret ?_
          refine t_ret ?_
          refine ret2 rfl rfl rfl (fun w' hm => ?_)
          rw [show rdI l = ([], 60) from by unfold rdI; rw [if_pos ⟨hpay, hle⟩, if_neg hdiff, if_pos ⟨hC.1, hC.2, hw60⟩]]
          exact ⟨_, rfl, hm.base (by simp), sliceRd_nil⟩
        · have hw60 : ¬withX (linesE l) (totE l) = l := by
            rw [hb82, hb81] at hc67
            simpa using hc67
          refine w_skip ?_
          refine b_norm ?_
          refine t_norm ?_
          refine w_seq ?_
          refine rg_text ?_
          refine x_val rfl rfl rfl (v_assign rfl) ?_
          refine x_val rfl rfl rfl (v_assign rfl) ?_
          refine x_end ?_
          refine t_norm ?_
          refine w_ret ?_
          refine ret2 rfl rfl rfl (fun w' hm => ?_)
          rw [show rdI l = ([], 11) from by unfold rdI; rw [if_pos ⟨hpay, hle⟩, if_neg hdiff, if_neg (fun q => hw60 q.2.2)]]
          exact ⟨_, rfl, hm.base (by simp), sliceRd_nil⟩
set_option maxHeartbeats 1000000 in
set_option maxRecDepth 100000 in
theorem c_RdIB {v : Value} {l : List Seg} {D : Nat → Prop} (w : World) (hl : sliceRd tySeg D w v l) (hbig : bigO l) (hL : LD w) (hC : ¬(0 ≤ readP (totE l) ∧ itoaS (readP (totE l)) = totE l)) :
    Calls Tryz.prog 18 #[v] w fun e w' => ∃ q, e = .returned (.tuple #[q, .int .i64 (rdI l).2]) ∧ Later w w' ∧ sliceRd tyOrd (fun b => w.heap.size ≤ b) w' q (rdI l).1 := by
  obtain ⟨A, cp, rfl, hlc, hmx, _⟩ := id hl
  refine enter (vs := [Value.slice A l.length cp]) Tryz.func18 rfl Tryz.ntmps18 rfl ?_
  refine w_seq ?_
  refine rg_text ?_
  refine x_val rfl rfl rfl (v_assign rfl) ?_
  refine x_val rfl rfl rfl (v_assign rfl) ?_
  refine x_end ?_
  refine t_norm ?_
  refine w_seq ?_
  refine rg_text ?_
  refine x_val rfl rfl rfl (v_assign rfl) ?_
  refine x_end ?_
  refine t_norm ?_
  refine w_seq ?_
  refine w_seq ?_
  refine rg_text ?_
  refine x_val rfl rfl rfl (v_assign rfl) ?_
  refine x_end ?_
  refine t_norm ?_
  refine w_block ?_
  refine w_loop (σ := Nat × RowS) (fun x => x.1 ≤ min 1000 ((l.length - 3) / 4) ∧ RowT tyOrd (fun _ => False) w x.2 ((List.range x.1).map (lineE l))) (fun x => [(0, Value.slice A l.length cp), (4, rowV x.2 x.1), (5, Value.int .i64 ((4 * x.1 + 2 : Nat) : Int))]) (fun x => rowO 25 x.2) (fun x => [(w, fun _ => True)]) (fun x => min 1000 ((l.length - 3) / 4) - x.1) ((0, none)) (⟨Nat.zero_le _, RowT.nil⟩) (l_start (by repeat (first | exact Sub.nil | refine Sub.cons rfl ?_)) (fun _ h => h)) ?_
  rintro ⟨k, R⟩ ⟨hk, hT⟩
  refine w_state ([(0, Value.slice A l.length cp), (4, rowV R k), (5, Value.int .i64 ((4 * k + 2 : Nat) : Int))]) (rowO 25 R) ([(w, fun _ => True)]) ?_
  dsimp only at hk hT
  have hln : ((List.range k).map (lineE l)).length = k := by simp
  refine w_seq ?_
  refine w_seq ?_
  refine rg_text ?_
  refine x_val rfl rfl rfl (v_move rfl) ?_
  refine x_val rfl rfl rfl (v_addi (c := ((4 * k + 6 : Nat) : Int)) rfl rfl (by omega) (by omega)) ?_
  refine x_val rfl rfl rfl (v_move rfl) ?_
  refine x_val rfl rfl rfl (v_len_slice Tryz.underlying29 rfl) ?_
  refine x_bool rfl rfl rfl (v_lss rfl rfl) ?_
  intro b13 hb13
  refine x_val rfl rfl rfl (v_move rfl) ?_
  refine x_if [] rfl rfl rfl rfl rfl (fun hg => by obtain ⟨hg0, _⟩ := hg; subst hg0; (try simp only [List.cons_append, List.nil_append, gvl_nil, gvl_t, gvl_f]); exact v_move rfl) ?_
  refine x_if [] rfl rfl rfl rfl rfl (fun hg => by obtain ⟨hg0, _⟩ := hg; subst hg0; (try simp only [List.cons_append, List.nil_append, gvl_nil, gvl_t, gvl_f]); exact v_len_slice Tryz.underlying28 rfl) ?_
  refine x_ifb [] rfl rfl rfl rfl rfl (fun hg => by obtain ⟨hg0, _⟩ := hg; subst hg0; (try simp only [List.cons_append, List.nil_append, gvl_nil, gvl_t, gvl_f]); exact v_leq rfl rfl) ?_
  intro b17 hb17
  refine x_bool rfl rfl rfl (v_and rfl rfl) ?_
  intro b18 hb18
  refine x_end ?_
  refine t_norm ?_
  refine w_cond rfl (fun hc18 => ?_) (fun hc18 => ?_)
  · simp only [hb18, hb17, hb13, decide_eq_true_eq, decide_eq_false_iff_not, Bool.and_eq_true, Bool.or_eq_true, Bool.and_eq_false_iff, Bool.or_eq_false_iff, Bool.not_eq_true', Bool.not_eq_false', ne_eq, Decidable.not_not] at hc18
    have hkc : k < min 1000 ((l.length - 3) / 4) := by omega
    refine w_skip ?_
    refine t_norm ?_
    refine w_seq ?_
    refine w_block ?_
    refine rg_text ?_
    refine x_val rfl rfl rfl (v_move rfl) ?_
    refine x_val rfl rfl rfl (v_move rfl) ?_
    refine x_val rfl rfl rfl (v_move rfl) ?_
    refine x_callv rfl rfl rfl Tryz.func40 (by kernel_rfl) rfl (fun w1 hw1 => c_text (4 * k + 2) 2 0 w1 (hl.keep (Kept.later (hw1.base (by simp))))) ?_
    refine x_callv rfl rfl rfl Tryz.func41 (by kernel_rfl) rfl (fun w1 hw1 => c_erec (txt l (4 * k + 2) 2 0) w1 (txt_sz hbig (4 * k + 2) 2 0) (hL.later (hw1.base (by simp)))) ?_
    refine x_val rfl rfl rfl (v_move rfl) ?_
    refine x_val rfl rfl rfl (v_move rfl) ?_
    refine x_val rfl rfl rfl (v_addi (c := ((4 * k + 3 : Nat) : Int)) rfl rfl (by omega) (by omega)) ?_
    refine x_callv rfl rfl rfl Tryz.func40 (by kernel_rfl) rfl (fun w1 hw1 => c_text (4 * k + 3) 0 1 w1 (hl.keep (Kept.later (hw1.base (by simp))))) ?_
    refine x_callv rfl rfl rfl Tryz.func39 (by kernel_rfl) rfl (fun w1 hw1 => c_read (txt l (4 * k + 3) 0 1) w1 (Nat.le_trans (txt_sz hbig (4 * k + 3) 0 1) (by decide)) (hL.later (hw1.base (by simp)))) ?_
    refine x_val rfl rfl rfl (v_move rfl) ?_
    refine x_val rfl rfl rfl (v_move rfl) ?_
    refine x_val rfl rfl rfl (v_addi (c := ((4 * k + 4 : Nat) : Int)) rfl rfl (by omega) (by omega)) ?_
    refine x_callv rfl rfl rfl Tryz.func40 (by kernel_rfl) rfl (fun w1 hw1 => c_text (4 * k + 4) 0 1 w1 (hl.keep (Kept.later (hw1.base (by simp))))) ?_
    refine x_callv rfl rfl rfl Tryz.func39 (by kernel_rfl) rfl (fun w1 hw1 => c_read (txt l (4 * k + 4) 0 1) w1 (Nat.le_trans (txt_sz hbig (4 * k + 4) 0 1) (by decide)) (hL.later (hw1.base (by simp)))) ?_
    refine x_val rfl rfl rfl (v_move rfl) ?_
    refine x_val rfl rfl rfl (v_move rfl) ?_
    refine x_val rfl rfl rfl (v_addi (c := ((4 * k + 5 : Nat) : Int)) rfl rfl (by omega) (by omega)) ?_
    refine x_callv rfl rfl rfl Tryz.func40 (by kernel_rfl) rfl (fun w1 hw1 => c_text (4 * k + 5) 0 1 w1 (hl.keep (Kept.later (hw1.base (by simp))))) ?_
    refine x_callv rfl rfl rfl Tryz.func39 (by kernel_rfl) rfl (fun w1 hw1 => c_read (txt l (4 * k + 5) 0 1) w1 (Nat.le_trans (txt_sz hbig (4 * k + 5) 0 1) (by decide)) (hL.later (hw1.base (by simp)))) ?_
    refine x_val rfl rfl rfl (v_buildL (places := [(0, 1), (1, 1), (2, 2), (4, 1), (5, 1), (6, 1), (7, 1), (8, 1)]) Tryz.underlying25 zr25 (by kernel_rfl) rfl rfl) ?_
    refine x_buildSliceL (cs := (lineE l k).cells) rfl rfl rfl Tryz.underlying28 sz25 zr25 rfl rfl rfl ?_
    intro p42
    obtain ⟨css, hcl, hrow, hrd⟩ := hT
    rw [hln] at hcl hrow
    refine x_append (e := 25) [(p42, Obj.cells (lineE l k).cells.toArray 25)] (l2 := []) R (len := k) (xs := css.flatten) rfl rfl rfl rfl (by rw [List.append_nil]; rfl) hrow Tryz.underlying28 ap25 rfl rfl (m := 1) (news := (lineE l k).cells) (fun i hi => at_ownL (vs := (lineE l k).cells) (.head _) (by rw [Nat.zero_add]; exact List.getElem?_eq_getElem hi)) rfl (by simp only [maxLen]; omega) (by omega) ?_
    intro R' hR'
    refine x_val rfl rfl rfl (v_assign rfl) ?_
    refine x_end ?_
    refine b_norm ?_
    refine t_norm ?_
    refine rg_text ?_
    refine x_val rfl rfl rfl (v_move rfl) ?_
    refine x_val rfl rfl rfl (v_addi (c := ((4 * k + 6 : Nat) : Int)) rfl rfl (by omega) (by omega)) ?_
    refine x_val rfl rfl rfl (v_assign rfl) ?_
    refine x_end ?_
    rw [List.append_nil]
    exact l_norm (x := (k, R)) (μ := fun q : Nat × RowS => min 1000 ((l.length - 3) / 4) - q.1) (k + 1, R') ⟨by dsimp only; omega, by dsimp only; rw [range_snoc]; exact snocN hln hcl hrd hR' ⟨rfl, lineE_okA l k⟩⟩ (by simp only; omega) (by dsimp only; rw [show 4 * (k + 1) + 2 = 4 * k + 6 by omega]; repeat (first | exact Sub.nil | refine Sub.cons rfl ?_)) (fun w1 h => h.less (List.sublist_append_right _ _) (fun _ h => h))
  · simp only [hb18, hb17, hb13, decide_eq_true_eq, decide_eq_false_iff_not, Bool.and_eq_true, Bool.or_eq_true, Bool.and_eq_false_iff, Bool.or_eq_false_iff, Bool.not_eq_true', Bool.not_eq_false', ne_eq, Decidable.not_not] at hc18
    obtain rfl : k = min 1000 ((l.length - 3) / 4) := by omega
    refine w_exit ?_
    refine t_exit ?_
    refine t_exit ?_
    refine b_hit ?_
    refine t_norm ?_
    refine w_seq ?_
    refine rg_text ?_
    refine x_val rfl rfl rfl (v_move rfl) ?_
    refine x_call (R := fun v wa wb => ∃ A1 c1, v = .slice A1 (invR (linesE l)).length c1 ∧ sliceRd tySeg (fun b => wa.heap.size ≤ b) wb (.slice A1 (invR (linesE l)).length c1) (invR (linesE l)) ∧ A1.isNone = decide ((invR (linesE l)).length = 0)) rfl rfl rfl Tryz.func16 (by kernel_rfl) rfl (fun w1 hw1 => (c_Invoice (ls := linesE l) w1 (hT.any (D' := fun _ => True) (e := 25) hw1 (fun q hq => hq) (fun _ _ => trivial) (by simp)) (hL.later (hw1.base (by simp)))).mono fun e w2 ⟨v, h1, h2, h3, h4⟩ => ord_out h1 h2 h3 h4) ?_
    intro v45 wa45 wb45 hm45 hl45 hR45
    obtain ⟨A1, c1, rfl, hr45, hn45⟩ := hR45
    refine x_val rfl rfl rfl (v_assign rfl) ?_
    refine x_end ?_
    refine t_norm ?_
    refine w_seq ?_
    refine w_seq ?_
    refine rg_text ?_
    refine x_val rfl rfl rfl (v_move rfl) ?_
    refine x_bool rfl rfl rfl (v_sliceNil Tryz.underlying29 rfl) ?_
    intro b47 hb47
    refine x_val rfl rfl rfl (v_move rfl) ?_
    refine x_if [] rfl rfl rfl rfl rfl (fun hg => by obtain ⟨hg0, _⟩ := hg; subst hg0; (try simp only [List.cons_append, List.nil_append, gvl_nil, gvl_t, gvl_f]); exact v_move rfl) ?_
    refine x_if [] rfl rfl rfl rfl rfl (fun hg => by obtain ⟨hg0, _⟩ := hg; subst hg0; (try simp only [List.cons_append, List.nil_append, gvl_nil, gvl_t, gvl_f]); exact v_len_slice Tryz.underlying29 rfl) ?_
    refine x_if [] rfl rfl rfl rfl rfl (fun hg => by obtain ⟨hg0, _⟩ := hg; subst hg0; (try simp only [List.cons_append, List.nil_append, gvl_nil, gvl_t, gvl_f]); exact v_move rfl) ?_
    refine x_if [] rfl rfl rfl rfl rfl (fun hg => by obtain ⟨hg0, _⟩ := hg; subst hg0; (try simp only [List.cons_append, List.nil_append, gvl_nil, gvl_t, gvl_f]); exact v_len_slice Tryz.underlying29 rfl) ?_
    refine x_ifb [] rfl rfl rfl rfl rfl (fun hg => by obtain ⟨hg0, _⟩ := hg; subst hg0; (try simp only [List.cons_append, List.nil_append, gvl_nil, gvl_t, gvl_f]); exact v_neq rfl rfl) ?_
    intro b53 hb53
    refine x_bool rfl rfl rfl (v_or rfl rfl) ?_
    intro b54 hb54
    refine x_end ?_
    refine t_norm ?_
    refine w_cond rfl (fun hc54 => ?_) (fun hc54 => ?_)
    · have hno : ¬(payP (linesE l) ∧ (invR (linesE l)).length = l.length) := fun ⟨q1, q2⟩ => by
        rw [hb54, hb53, hb47, hn45, q2] at hc54
        have q3 := invR_len (linesE l)
        rw [if_pos q1, q2] at q3
        simp at hc54
        rw [hc54] at q3
        simp at q3
      refine w_seq ?_
      refine rg_text ?_
      refine x_val rfl rfl rfl (v_assign rfl) ?_
      refine x_val rfl rfl rfl (v_assign rfl) ?_
      refine x_end ?_
      refine t_norm ?_
      refine w_ret ?_
      refine t_ret ?_
      refine ret2 rfl rfl rfl (fun w' hm => ?_)
      rw [show rdI l = ([], 11) from by unfold rdI; rw [if_neg hno]]
      exact ⟨_, rfl, hm.base (by simp), sliceRd_nil⟩
    · have hyes : (invR (linesE l)).length = l.length ∧ (invR (linesE l)).length ≠ 0 := by
        rw [hb54, hb53, hb47, hn45] at hc54
        simp only [Bool.or_eq_false_iff, decide_eq_false_iff_not, ne_eq, Decidable.not_not] at hc54
        exact ⟨by omega, hc54.1⟩
      obtain ⟨hle, hl0⟩ := hyes
      have hpay : payP (linesE l) := by
        apply Classical.byContradiction; intro q; apply hl0; rw [invR_len, if_neg q]
      obtain ⟨p1, p2, p3⟩ := id hpay
      have hl5 : l.length = 4 * (linesE l).length + 5 := by rw [← hle, invR_len, if_pos hpay]
      refine w_skip ?_
      refine t_norm ?_
      refine w_seq ?_
      refine rg_text ?_
      refine x_val rfl rfl rfl (v_move rfl) ?_
      refine x_val rfl rfl rfl (v_move rfl) ?_
      refine x_val rfl rfl rfl (v_len_slice Tryz.underlying29 rfl) ?_
      refine x_val rfl rfl rfl (v_subi (c := ((l.length - 2 : Nat) : Int)) rfl rfl (by omega) (by omega)) ?_
      refine x_callv rfl rfl rfl Tryz.func40 (by kernel_rfl) rfl (fun w1 hw1 => show Calls _ _ _ w1 (fun e w2 => e = .returned (.string (totE l)) ∧ Later w1 w2) from c_text (l.length - 2) 0 1 w1 (hl.keep (Kept.later (hw1.base (by simp))))) ?_
      refine x_val rfl rfl rfl (v_assign rfl) ?_
      refine x_end ?_
      refine t_norm ?_
      refine w_seq ?_
      refine w_seq ?_
      refine rg_text ?_
      refine x_val rfl rfl rfl (v_move rfl) ?_
      refine x_callv rfl rfl rfl Tryz.func39 (by kernel_rfl) rfl (fun w1 hw1 => c_read (totE l) w1 (Nat.le_trans (txt_sz hbig (l.length - 2) 0 1) (by decide)) (hL.later (hw1.base (by simp)))) ?_
      refine x_val rfl rfl rfl (v_assign rfl) ?_
      refine x_end ?_
      refine t_norm ?_
      refine w_block ?_
      refine w_seq ?_
      refine rg_text ?_
      refine x_val rfl rfl rfl (v_move rfl) ?_
      refine x_val rfl rfl rfl (v_move rfl) ?_
      refine x_callb rfl rfl rfl Tryz.func42 (by kernel_rfl) rfl (fun w1 hw1 => c_same (xs := invR (linesE l)) (ys := l) w1 (keep_new hr45 hw1 (by simp) hm45) (hl.keep (Kept.later (hw1.base (by simp))))) ?_
      intro b65 hb65
      refine x_val rfl rfl rfl (v_assign rfl) ?_
      refine x_end ?_
      refine t_norm ?_
      refine w_cond rfl (fun hc62 => ?_) (fun hc62 => ?_)
      · have hsame : invR (linesE l) = l := by rw [hb65] at hc62; simpa using hc62
        refine w_seq ?_
        refine rg_text ?_
        refine x_val rfl rfl rfl (v_move rfl) ?_
        refine x_val rfl rfl rfl (v_assign rfl) ?_
        refine x_val rfl rfl rfl (v_assign rfl) ?_
        refine x_end ?_
        refine t_norm ?_
        refine w_ret ?_
        refine b_ret ?_
        refine t_ret ?_
        refine ret2 rfl rfl rfl (fun w' hm => ?_)
        rw [show rdI l = (linesE l, 0) from by unfold rdI; rw [if_pos ⟨hpay, hle⟩, if_pos hsame]]
        exact ⟨_, rfl, hm.base (by simp), (hT.any (e := 25) hm (fun q hq => hq) (fun q hq => hm.newer (by simp) hq) (by simp))⟩
      · have hdiff : ¬invR (linesE l) = l := by rw [hb65] at hc62; simpa using hc62
        refine w_seq ?_
        refine rg_text ?_
        refine x_val rfl rfl rfl (v_move rfl) ?_
        refine x_bool rfl rfl rfl (v_geq rfl rfl) ?_
        intro b69 hb69
        refine x_val rfl rfl rfl (v_move rfl) ?_
        refine x_if [] rfl rfl rfl rfl rfl (fun hg => by obtain ⟨hg0, _⟩ := hg; subst hg0; (try simp only [List.cons_append, List.nil_append, gvl_nil, gvl_t, gvl_f]); exact v_move rfl) ?_
        refine x_call_if [] rfl rfl rfl rfl rfl Tryz.func32 (by kernel_rfl) (fun hg => by obtain ⟨hg0, _⟩ := hg; subst hg0; (try simp only [List.cons_append, List.nil_append, gvl_nil, gvl_t, gvl_f]); refine ⟨_, rfl, ?_⟩; exact fun w1 hw1 => c_number (readP (totE l)) w1 (readP_in _) (hL.later (hw1.base (by simp)))) ?_
        refine x_if [] rfl rfl rfl rfl rfl (fun hg => by obtain ⟨hg0, _⟩ := hg; subst hg0; (try simp only [List.cons_append, List.nil_append, gvl_nil, gvl_t, gvl_f]); exact v_move rfl) ?_
        refine x_ifb [] rfl rfl rfl rfl rfl (fun hg => by obtain ⟨hg0, _⟩ := hg; subst hg0; (try simp only [List.cons_append, List.nil_append, gvl_nil, gvl_t, gvl_f]); exact v_seql rfl rfl) ?_
        intro b74 hb74
        refine x_bool rfl rfl rfl (v_and rfl rfl) ?_
        intro b75 hb75
        obtain rfl : b75 = false := by
              rw [hb75, hb74, hb69]
              rw [← Bool.not_eq_true]
              simpa using hC
        refine x_val rfl rfl rfl (v_move rfl) ?_
        refine x_no rfl rfl rfl rfl rfl ?_
        refine x_no rfl rfl rfl rfl rfl ?_
        refine x_no rfl rfl rfl rfl rfl ?_
        refine x_no rfl rfl rfl rfl rfl ?_
        refine x_no rfl rfl rfl rfl rfl ?_
        refine x_val (v := .bool false) rfl rfl rfl (v_pick (b := false) rfl rfl) ?_
        refine x_val rfl rfl rfl (v_assign rfl) ?_
        refine x_end ?_
        refine t_norm ?_
        refine w_cond rfl (fun hc67 => ?_) (fun hc67 => ?_)
        · cases hc67
        · skip
          refine w_skip ?_
          refine b_norm ?_
          refine t_norm ?_
          refine w_seq ?_
          refine rg_text ?_
          refine x_val rfl rfl rfl (v_assign rfl) ?_
          refine x_val rfl rfl rfl (v_assign rfl) ?_
          refine x_end ?_
          refine t_norm ?_
          refine w_ret ?_
          refine ret2 rfl rfl rfl (fun w' hm => ?_)
          rw [show rdI l = ([], 11) from by unfold rdI; rw [if_pos ⟨hpay, hle⟩, if_neg hdiff, if_neg (fun q => hC ⟨q.1, q.2.1⟩)]]
          exact ⟨_, rfl, hm.base (by simp), sliceRd_nil⟩
theorem c_ReadInvoice {v : Value} {l : List Seg} {D : Nat → Prop} (w : World) (hl : sliceRd tySeg D w v l) (hbig : bigO l) (hL : LD w) : Calls Tryz.prog 18 #[v] w fun e w' => ∃ q, e = .returned (.tuple #[q, .int .i64 (rdI l).2]) ∧ Later w w' ∧ sliceRd tyOrd (fun b => w.heap.size ≤ b) w' q (rdI l).1 := by
  by_cases hC : 0 ≤ readP (totE l) ∧ itoaS (readP (totE l)) = totE l
  · exact c_RdIA w hl hbig hL hC
  · exact c_RdIB w hl hbig hL hC

end Go.Proofs.YtbamklefagghcaaGreatDoor

namespace Go.Proofs.YtbamklefagghcaaGreatDoor
open Go.RowKit Go.PK
set_option linter.unusedVariables false
set_option linter.unusedSimpArgs false
end Go.Proofs.YtbamklefagghcaaGreatDoor

namespace Go.Proofs.YtbamklefagghcaaGreatDoor
open Go.RowKit Go.PK
set_option linter.unusedVariables false
set_option linter.unusedSimpArgs false
def fA (x : Seg) : List Value := [Value.string abcT, .slice none 0 0]
theorem fA_rd (D : Nat → Prop) (w : World) {xs : List Seg} (h : ∀ x ∈ xs, x = segA) : ∀ x ∈ xs, tySeg.rd D w (fA x) x := fun x hx => by
  rw [h x hx]; exact tySeg_mk rfl (okS_small (by decide)) sliceRd_nil
theorem rep_a (k : Nat) : ∀ x ∈ List.replicate k segA, x = segA := fun x hx => (List.mem_replicate.1 hx).2
theorem rep_a1 (k : Nat) : ∀ x ∈ List.replicate k segA ++ [segA], x = segA := fun x hx => by
  rcases List.mem_append.1 hx with h | h
  · exact rep_a k x h
  · exact List.mem_singleton.1 h
theorem one_ok : oneO.okA := by unfold PK.Ord.okA PK.Ord.ok in64 oneO; decide
theorem one_rd (D : Nat → Prop) (w : World) (k : Nat) : ∀ x ∈ List.replicate k oneO, tyOrd.rd D w x.cells x := fun x hx => by
  rw [(List.mem_replicate.1 hx).2]; exact ⟨rfl, one_ok⟩
theorem flat_snoc {α : Type} (f : α → List Value) (x : α) (k : Nat) : (List.replicate (k + 1) x).flatMap f = (List.replicate k x).flatMap f ++ f x := by
  rw [List.replicate_succ', List.flatMap_append, List.flatMap_cons, List.flatMap_nil, List.append_nil]
theorem row_cap {size n m : Nat} {R : RowS} {xs : List Value} (h : rowOK size R n xs) (hm : m < n) : m ≤ rowC R := by
  obtain ⟨_, h2⟩ := h
  cases R with
  | none => simp only at h2; omega
  | some x => obtain ⟨b, cs, c⟩ := x; obtain ⟨h3, _⟩ := h2; simp only at h3; show m ≤ c; omega
theorem row_take {α : Type} {T : Ty α} {D : Nat → Prop} {w : World} {R : RowS} {n m : Nat} {xs : List α} (h : sliceRd T D w (rowV R n) xs) (hm : m ≤ xs.length) : sliceRd T D w (.slice (rowA R) m (rowC R)) (xs.take m) := by
  have h' : sliceRd T D w (.slice (rowA R) n (rowC R)) xs := h
  obtain ⟨_, _, e, _⟩ := id h'
  injection e with _ e _
  subst e
  exact h'.take m hm
theorem two_cells {R : RowS} {n : Nat} (h : rowOK 2 R n ((List.replicate n segA).flatMap fA)) (hn : 0 < n) : ∃ b cs c, R = some (b, cs, c) ∧ cs[0]? = some (Value.string abcT) ∧ cs[1]? = some (Value.slice none 0 0) := by
  obtain ⟨m, rfl⟩ := Nat.exists_eq_succ_of_ne_zero (Nat.pos_iff_ne_zero.1 hn)
  obtain ⟨h1, h2⟩ := h
  cases R with
  | none => simp only at h2; omega
  | some x =>
    obtain ⟨b, cs, c⟩ := x
    obtain ⟨_, _, _, h6⟩ := h2
    refine ⟨b, cs, c, rfl, ?_, ?_⟩
    · have := congrArg (fun q : List Value => q[0]?) h6
      rw [List.replicate_succ, List.flatMap_cons] at this
      rw [List.getElem?_take_of_lt (by omega)] at this
      exact this
    · have := congrArg (fun q : List Value => q[1]?) h6
      rw [List.replicate_succ, List.flatMap_cons] at this
      rw [List.getElem?_take_of_lt (by omega)] at this
      exact this
set_option maxHeartbeats 8000000 in
set_option maxRecDepth 100000 in
theorem d6 (w : World) (hL : LD w) :
    Calls Tryz.prog 6 #[] w fun e w' => e = .returned (.bool (true)) ∧ Later w w' := by
  refine enter (vs := []) Tryz.func6 rfl Tryz.ntmps6 rfl ?_
  refine w_seq ?_
  refine rg_text ?_
  refine x_val rfl rfl rfl (v_assign rfl) ?_
  refine x_end ?_
  refine t_norm ?_
  refine w_seq ?_
  refine rg_text ?_
  refine x_callb rfl rfl rfl Tryz.func9 (by kernel_rfl) rfl (fun w1 hw1 => c_sanity w1 (hL.later (hw1.base (by simp)))) ?_
  intro b22 hb22
  obtain rfl : b22 = true := hb22
  refine x_val rfl rfl rfl (v_assign rfl) ?_
  refine x_end ?_
  refine t_norm ?_
  refine w_seq ?_
  refine rg_text ?_
  refine x_val rfl rfl rfl (v_buildL (places := [(0, 1), (1, 1), (2, 2), (4, 1), (5, 1), (6, 1), (7, 1), (8, 1)]) Tryz.underlying25 zr25 (by kernel_rfl) rfl rfl) ?_
  refine x_alloc rfl rfl rfl zr25 ?_
  intro p2
  refine x_store0 [] rfl rfl rfl rfl sz25 rfl rfl ?_
  refine x_end ?_
  refine t_norm ?_
  refine w_seq ?_
  refine rg_text ?_
  refine x_val rfl rfl rfl (v_assign rfl) ?_
  refine x_end ?_
  refine t_norm ?_
  refine w_seq ?_
  refine w_seq ?_
  refine rg_text ?_
  refine x_val rfl rfl rfl (v_move rfl) ?_
  refine x_end ?_
  refine t_norm ?_
  refine w_block ?_
  refine w_loop (σ := Nat × RowS) (fun x => x.1 ≤ 1000 ∧ rowOK 9 x.2 x.1 ((List.replicate x.1 oneO).flatMap PK.Ord.cells)) (fun x => [(1, Value.bool true), (2, Value.pointer (some ⟨p2, 0, none⟩)), (3, rowV x.2 x.1), (24, Value.int .i64 (x.1 : Nat))]) (fun x => rowO 25 x.2 ++ [(p2, Obj.cells oneO.cells.toArray 25)]) (fun x => [(w, fun _ => True)]) (fun x => 1000 - x.1) ((0, none)) (⟨Nat.zero_le _, rowOK_nil⟩) (l_start (by repeat (first | exact Sub.nil | refine Sub.cons rfl ?_)) (fun _ h => h)) ?_
  rintro ⟨k, R⟩ ⟨hk, hR⟩
  refine w_state ([(1, Value.bool true), (2, Value.pointer (some ⟨p2, 0, none⟩)), (3, rowV R k), (24, Value.int .i64 (k : Nat))]) (rowO 25 R ++ [(p2, Obj.cells oneO.cells.toArray 25)]) ([(w, fun _ => True)]) ?_
  dsimp only at hk hR
  refine w_seq ?_
  refine rg_text ?_
  refine x_bool rfl rfl rfl (v_lss rfl rfl) ?_
  intro b25 hb25
  refine x_end ?_
  refine t_norm ?_
  refine w_seq ?_
  refine w_cond rfl (fun hc25 => ?_) (fun hc25 => ?_)
  · simp only [hb25, decide_eq_true_eq, decide_eq_false_iff_not, Bool.and_eq_true, Bool.or_eq_true, Bool.and_eq_false_iff, Bool.or_eq_false_iff, Bool.not_eq_true', Bool.not_eq_false', ne_eq, Decidable.not_not] at hc25
    have hk1 : k < 1000 := by omega
    refine w_skip ?_
    refine t_norm ?_
    refine w_seq ?_
    refine w_block ?_
    refine rg_text ?_
    refine x_val rfl rfl rfl (v_move rfl) ?_
    refine x_val rfl rfl rfl (v_load_blk (e := 25) (fz := (0, 0)) (cs := oneO.cells.toArray) Tryz.underlying25 rfl rfl (by simp) sz25) ?_
    refine x_buildSliceL (cs := oneO.cells) rfl rfl rfl Tryz.underlying28 sz25 zr25 rfl rfl rfl ?_
    intro p28
    refine x_append (e := 25) [(p28, Obj.cells oneO.cells.toArray 25)] (l2 := [(p2, Obj.cells oneO.cells.toArray 25)]) R (len := k) (xs := (List.replicate k oneO).flatMap PK.Ord.cells) rfl rfl rfl rfl (by simp [List.append_assoc]) hR Tryz.underlying28 ap25 rfl rfl (m := 1) (news := oneO.cells) (fun i hi => at_ownL (vs := oneO.cells) (.head _) (by rw [Nat.zero_add]; exact List.getElem?_eq_getElem hi)) rfl (by simp only [maxLen]; omega) (by omega) ?_
    intro R' hR'
    refine x_val rfl rfl rfl (v_assign rfl) ?_
    refine x_end ?_
    refine b_norm ?_
    refine t_norm ?_
    refine rg_text ?_
    refine x_val rfl rfl rfl (v_addi rfl rfl rfl (by first | omega | (dsimp only; omega))) ?_
    refine x_val rfl rfl rfl (v_move rfl) ?_
    refine x_end ?_
    exact l_norm (x := (k, R)) (μ := fun q : Nat × RowS => 1000 - q.1) (k + 1, R') ⟨by dsimp only; omega, by dsimp only; rw [flat_snoc]; exact hR'⟩ (by simp only; omega) (by repeat (first | exact Sub.nil | refine Sub.cons rfl ?_)) (fun w1 h => (h.less (List.sublist_cons_self _ _) (fun _ h => h)).to (by simp [List.append_assoc]))
  · simp only [hb25, decide_eq_true_eq, decide_eq_false_iff_not, Bool.and_eq_true, Bool.or_eq_true, Bool.and_eq_false_iff, Bool.or_eq_false_iff, Bool.not_eq_true', Bool.not_eq_false', ne_eq, Decidable.not_not] at hc25
    have hkN : k = 1000 := by omega
    have hR1 := hR
    obtain ⟨y1, y2, y3, y4⟩ := many_inv hkN
    obtain ⟨z1, z2, z3⟩ := one_pay hkN
    have y5 := many_bad (ls := (List.replicate k oneO)) (t := ⟨#[53, 48, 48, 48]⟩) (by rw [List.length_replicate]; exact hkN)
    have hcp : 999 ≤ rowC R := row_cap hR1 (by omega)
    refine w_exit ?_
    refine t_exit ?_
    refine t_exit ?_
    refine b_hit ?_
    refine t_norm ?_
    refine w_seq ?_
    refine rg_text ?_
    refine x_val rfl rfl rfl (v_move rfl) ?_
    refine x_val rfl rfl rfl (v_scut_to (j := 999) Tryz.underlying28 sz25 rfl rfl hcp) ?_
    refine x_call (R := fun v wa wb => ∃ A1 c1, v = .slice A1 (invR ((List.replicate k oneO).take 999)).length c1 ∧ sliceRd tySeg (fun b => wa.heap.size ≤ b) wb (.slice A1 (invR ((List.replicate k oneO).take 999)).length c1) (invR ((List.replicate k oneO).take 999))) rfl rfl rfl Tryz.func16 (by kernel_rfl) rfl (fun w1 hw1 => (c_Invoice (ls := ((List.replicate k oneO).take 999)) w1 (row_take (own_row_rd (T := tyOrd) (e := 25) (f := PK.Ord.cells) (ps := List.replicate k oneO) hw1 (fun q hq => List.mem_append_left _ hq) hR1 (by simp) (fun _ => rfl) (one_rd _ _ _)) (by rw [List.length_replicate]; omega)) (hL.later (hw1.base (by simp)))).mono fun e w2 ⟨v, h1, h2, h3, _⟩ => by obtain ⟨A1, c1, rfl, _⟩ := id h3; exact ⟨_, h1, h2, A1, c1, rfl, h3⟩) ?_
    intro v33 wa33 wb33 hm33 hl33 hR33
    obtain ⟨A33, c33, rfl, hr33⟩ := hR33
    refine x_val rfl rfl rfl (v_move rfl) ?_
    refine x_call (R := fun v wa wb => ∃ A1 c1, v = .slice A1 (invR (List.replicate k oneO)).length c1 ∧ sliceRd tySeg (fun b => wa.heap.size ≤ b) wb (.slice A1 (invR (List.replicate k oneO)).length c1) (invR (List.replicate k oneO))) rfl rfl rfl Tryz.func16 (by kernel_rfl) rfl (fun w1 hw1 => (c_Invoice (ls := (List.replicate k oneO)) w1 (own_row_rd (T := tyOrd) (e := 25) (f := PK.Ord.cells) (ps := List.replicate k oneO) hw1 (fun q hq => List.mem_append_left _ hq) hR1 (by simp) (fun _ => rfl) (one_rd _ _ _)) (hL.later (hw1.base (by simp)))).mono fun e w2 ⟨v, h1, h2, h3, _⟩ => by obtain ⟨A1, c1, rfl, _⟩ := id h3; exact ⟨_, h1, h2, A1, c1, rfl, h3⟩) ?_
    intro v35 wa35 wb35 hm35 hl35 hR35
    obtain ⟨A35, c35, rfl, hr35⟩ := hR35
    refine x_val rfl rfl rfl (v_assign rfl) ?_
    refine x_val rfl rfl rfl (v_assign rfl) ?_
    refine x_end ?_
    refine t_norm ?_
    refine w_seq ?_
    refine rg_text ?_
    refine x_val rfl rfl rfl (v_move rfl) ?_
    refine x_call (R := fun v wa wb => ∃ A1 c1, v = .tuple #[.slice A1 (rdI (invR ((List.replicate k oneO).take 999))).1.length c1, .int .i64 (rdI (invR ((List.replicate k oneO).take 999))).2]) rfl rfl rfl Tryz.func18 (by kernel_rfl) rfl (fun w1 hw1 => (c_ReadInvoice (l := invR ((List.replicate k oneO).take 999)) w1 (keep_new hr33 hw1 (by simp) hm33) (invR_big _) (hL.later (hw1.base (by simp)))).mono fun e w2 ⟨q, h1, h2, h3⟩ => by obtain ⟨A1, c1, rfl, _⟩ := id h3; exact ⟨_, h1, h2, A1, c1, rfl⟩) ?_
    intro v38 wa38 wb38 hm38 hl38 hR38
    obtain ⟨A38, c38, rfl⟩ := hR38
    refine x_val rfl rfl rfl (v_move rfl) ?_
    refine x_val rfl rfl rfl (v_extract rfl rfl) ?_
    refine x_val rfl rfl rfl (v_extract rfl rfl) ?_
    refine x_val rfl rfl rfl (v_assign rfl) ?_
    refine x_val rfl rfl rfl (v_assign rfl) ?_
    refine x_end ?_
    refine t_norm ?_
    refine w_seq ?_
    refine rg_text ?_
    refine x_val rfl rfl rfl (v_move rfl) ?_
    refine x_call (R := fun v wa wb => sliceRd tySeg (fun b => wa.heap.size ≤ b) wb v (withX (List.replicate k oneO) ⟨#[53, 48, 48, 48]⟩)) rfl rfl rfl Tryz.func20 (by kernel_rfl) rfl (fun w1 hw1 => (c_With (ls := (List.replicate k oneO)) w1 (own_row_rd (T := tyOrd) (e := 25) (f := PK.Ord.cells) (ps := List.replicate k oneO) hw1 (fun q hq => List.mem_append_left _ hq) hR1 (by simp) (fun _ => rfl) (one_rd _ _ _)) ⟨#[53, 48, 48, 48]⟩ (one_wr k) (by rw [List.length_replicate]; omega) (okS_small (by decide))).mono fun e w2 ⟨v, h1, h2, h3⟩ => ⟨_, h1, h2, h3⟩) ?_
    intro v43 wa43 wb43 hm43 hl43 hR43
    refine x_call (R := fun v wa wb => ∃ A1 c1, v = .tuple #[.slice A1 (rdI (withX (List.replicate k oneO) ⟨#[53, 48, 48, 48]⟩)).1.length c1, .int .i64 (rdI (withX (List.replicate k oneO) ⟨#[53, 48, 48, 48]⟩)).2]) rfl rfl rfl Tryz.func18 (by kernel_rfl) rfl (fun w1 hw1 => (c_ReadInvoice (l := withX (List.replicate k oneO) ⟨#[53, 48, 48, 48]⟩) w1 (keep_new hR43 hw1 (by simp) hm43) (withX_big (one_wr k) (by rw [List.length_replicate]; omega) (by decide)) (hL.later (hw1.base (by simp)))).mono fun e w2 ⟨q, h1, h2, h3⟩ => by obtain ⟨A1, c1, rfl, _⟩ := id h3; exact ⟨_, h1, h2, A1, c1, rfl⟩) ?_
    intro v44 wa44 wb44 hm44 hl44 hR44
    obtain ⟨A44, c44, rfl⟩ := hR44
    refine x_val rfl rfl rfl (v_move rfl) ?_
    refine x_val rfl rfl rfl (v_extract rfl rfl) ?_
    refine x_val rfl rfl rfl (v_extract rfl rfl) ?_
    refine x_val rfl rfl rfl (v_assign rfl) ?_
    refine x_val rfl rfl rfl (v_assign rfl) ?_
    refine x_end ?_
    refine t_norm ?_
    refine w_seq ?_
    refine rg_text ?_
    refine x_val rfl rfl rfl (v_assign rfl) ?_
    refine x_end ?_
    refine t_norm ?_
    refine w_seq ?_
    refine rg_text ?_
    refine x_val rfl rfl rfl (v_assign rfl) ?_
    refine x_end ?_
    refine t_norm ?_
    refine w_seq ?_
    refine w_seq ?_
    refine rg_text ?_
    refine x_val rfl rfl rfl (v_move rfl) ?_
    refine x_end ?_
    refine t_norm ?_
    refine w_block ?_
    refine w_loop (σ := Nat × RowS) (fun x => x.1 ≤ 10000 ∧ rowOK 2 x.2 x.1 ((List.replicate x.1 segA).flatMap fA)) (fun x => [(1, Value.bool true), (4, Value.slice A33 (invR ((List.replicate k oneO).take 999)).length c33), (5, Value.slice A35 (invR (List.replicate k oneO)).length c35), (6, Value.slice A38 (rdI (invR ((List.replicate k oneO).take 999))).1.length c38), (7, Value.int .i64 (rdI (invR ((List.replicate k oneO).take 999))).2), (9, Value.int .i64 (rdI (withX (List.replicate k oneO) ⟨#[53, 48, 48, 48]⟩)).2), (10, rowV x.2 x.1), (11, Value.string ⟨(msgA x.1).toArray⟩), (47, Value.int .i64 (x.1 : Nat))]) (fun x => rowO 49 x.2) (fun x => [(w, fun _ => True)]) (fun x => 10000 - x.1) ((0, none)) (⟨Nat.zero_le _, rowOK_nil⟩) (l_start (by repeat (first | exact Sub.nil | refine Sub.cons rfl ?_)) (fun _ h => h.less (List.nil_sublist _) (fun q hq => by simp at hq ⊢; simp [hq]))) ?_
    rintro ⟨k2, R2⟩ ⟨hk2, hR2⟩
    refine w_state ([(1, Value.bool true), (4, Value.slice A33 (invR ((List.replicate k oneO).take 999)).length c33), (5, Value.slice A35 (invR (List.replicate k oneO)).length c35), (6, Value.slice A38 (rdI (invR ((List.replicate k oneO).take 999))).1.length c38), (7, Value.int .i64 (rdI (invR ((List.replicate k oneO).take 999))).2), (9, Value.int .i64 (rdI (withX (List.replicate k oneO) ⟨#[53, 48, 48, 48]⟩)).2), (10, rowV R2 k2), (11, Value.string ⟨(msgA k2).toArray⟩), (47, Value.int .i64 (k2 : Nat))]) (rowO 49 R2) ([(w, fun _ => True)]) ?_
    dsimp only at hk2 hR2
    refine w_seq ?_
    refine rg_text ?_
    refine x_bool rfl rfl rfl (v_lss rfl rfl) ?_
    intro b48 hb48
    refine x_end ?_
    refine t_norm ?_
    refine w_seq ?_
    refine w_cond rfl (fun hc48 => ?_) (fun hc48 => ?_)
    · simp only [hb48, decide_eq_true_eq, decide_eq_false_iff_not, Bool.and_eq_true, Bool.or_eq_true, Bool.and_eq_false_iff, Bool.or_eq_false_iff, Bool.not_eq_true', Bool.not_eq_false', ne_eq, Decidable.not_not] at hc48
      have hk3 : k2 < 10000 := by omega
      refine w_skip ?_
      refine t_norm ?_
      refine w_seq ?_
      refine w_block ?_
      refine w_seq ?_
      refine rg_text ?_
      refine x_val rfl rfl rfl (v_move rfl) ?_
      refine x_val rfl rfl rfl (v_buildL (places := [(0, 1), (1, 1)]) Tryz.underlying49 zr49 (by kernel_rfl) rfl rfl) ?_
      refine x_buildSliceL (cs := [Value.string abcT, .slice none 0 0]) rfl rfl rfl Tryz.underlying29 sz49 zr49 rfl rfl rfl ?_
      intro p51
      refine x_append (e := 49) [(p51, Obj.cells [Value.string abcT, .slice none 0 0].toArray 49)] (l2 := []) R2 (len := k2) (xs := (List.replicate k2 segA).flatMap fA) rfl rfl rfl rfl (by rw [List.append_nil]; rfl) hR2 Tryz.underlying29 ap49 rfl rfl (m := 1) (news := [Value.string abcT, .slice none 0 0]) (fun i hi => at_ownL (vs := [Value.string abcT, .slice none 0 0]) (.head _) (by rw [Nat.zero_add]; exact List.getElem?_eq_getElem hi)) rfl (by simp only [maxLen]; omega) (by omega) ?_
      intro R' hR'
      refine x_val rfl rfl rfl (v_assign rfl) ?_
      refine x_end ?_
      refine t_norm ?_
      refine rg_text ?_
      refine x_val rfl rfl rfl (v_move rfl) ?_
      refine x_val rfl rfl rfl (v_saddL (a := msgA k2) (b := [65, 66, 67, 39]) rfl rfl (by rw [msgA_len]; show _ + 4 ≤ _; omega)) ?_
      refine x_val rfl rfl rfl (v_assign rfl) ?_
      refine x_end ?_
      refine b_norm ?_
      refine t_norm ?_
      refine rg_text ?_
      refine x_val rfl rfl rfl (v_addi rfl rfl rfl (by first | omega | (dsimp only; omega))) ?_
      refine x_val rfl rfl rfl (v_move rfl) ?_
      refine x_end ?_
      rw [List.append_nil]
      exact l_norm (x := (k2, R2)) (μ := fun q : Nat × RowS => 10000 - q.1) (k2 + 1, R') ⟨by dsimp only; omega, by dsimp only; rw [flat_snoc]; exact hR'⟩ (by simp only; omega) (by dsimp only; rw [msgA_succ]; repeat (first | exact Sub.nil | refine Sub.cons rfl ?_)) (fun w1 h => h.less (List.sublist_cons_self _ _) (fun _ h => h))
    · simp only [hb48, decide_eq_true_eq, decide_eq_false_iff_not, Bool.and_eq_true, Bool.or_eq_true, Bool.and_eq_false_iff, Bool.or_eq_false_iff, Bool.not_eq_true', Bool.not_eq_false', ne_eq, Decidable.not_not] at hc48
      have hkM : k2 = 10000 := by omega
      obtain ⟨t1, t2⟩ := wrT_le hkM
      obtain ⟨m1, m2⟩ := many1 hkM
      obtain ⟨m3, m4⟩ := many2 hkM
      have w1e := wr_many hkM
      have w2e := wr_more hkM
      have hml := msgA_len k2
      have hp1 : (⟨(msgA k2 ++ [32]).toArray⟩ : ByteArray).size ≤ 200000000 := by
        rw [mk_size, List.length_append, hml, List.length_singleton]; omega
      have hp2 : (⟨(msgA k2 ++ [32, 65]).toArray⟩ : ByteArray).size ≤ 200000000 := by
        rw [mk_size, List.length_append, hml]; simp only [List.length_cons, List.length_nil]; omega
      obtain ⟨S1, hS1⟩ : ∃ s : ByteArray, s = ⟨(msgA k2 ++ [32]).toArray⟩ := ⟨_, rfl⟩
      obtain ⟨S2, hS2⟩ : ∃ s : ByteArray, s = ⟨(msgA k2 ++ [32, 65]).toArray⟩ := ⟨_, rfl⟩
      rw [← hS1] at m1 m2 hp1
      rw [← hS2] at m3 m4 hp2
      obtain ⟨bb, cs, cc, rfl, hc0, hc1⟩ := two_cells hR2 (by omega)
      refine w_exit ?_
      refine t_exit ?_
      refine t_exit ?_
      refine b_hit ?_
      refine t_norm ?_
      refine w_seq ?_
      refine rg_text ?_
      refine x_val rfl rfl rfl (v_move rfl) ?_
      refine x_callv rfl rfl rfl Tryz.func22 (by kernel_rfl) rfl (fun w1 hw1 => c_Write (l := (List.replicate k2 segA)) w1 (own_row_rd (T := tySeg) (e := 49) (f := fA) (ps := (List.replicate k2 segA)) hw1 (fun q hq => hq) hR2 (by simp) (fun _ => rfl) (fA_rd _ _ (rep_a k2))) t1) ?_
      refine x_val rfl rfl rfl (v_move rfl) ?_
      refine x_val rfl rfl rfl (v_extract rfl rfl) ?_
      refine x_val rfl rfl rfl (v_extract rfl rfl) ?_
      refine x_val rfl rfl rfl (v_assign rfl) ?_
      refine x_val rfl rfl rfl (v_assign rfl) ?_
      refine x_end ?_
      refine t_norm ?_
      refine w_seq ?_
      refine rg_text ?_
      refine x_val rfl rfl rfl (v_move rfl) ?_
      refine x_val rfl rfl rfl (v_move rfl) ?_
      refine x_val rfl rfl rfl (v_indexAddr (j := 0) Tryz.underlying29 sz49 rfl rfl (by omega) rfl) ?_
      refine x_val rfl rfl rfl (v_loadN (vs := [Value.string abcT, .slice none 0 0]) Tryz.underlying49 rfl sz49 rfl (fun j hj => at_ownL (vs := cs) (.head _) (by match j, hj with | 0, _ => exact hc0 | 1, _ => exact hc1))) ?_
      refine x_buildSliceL (cs := [Value.string abcT, .slice none 0 0]) rfl rfl rfl Tryz.underlying29 sz49 zr49 rfl rfl rfl ?_
      intro p66
      refine x_append (e := 49) [(p66, Obj.cells [Value.string abcT, .slice none 0 0].toArray 49)] (l2 := []) (some (bb, cs, cc)) (len := k2) (xs := (List.replicate k2 segA).flatMap fA) rfl rfl rfl rfl rfl hR2 Tryz.underlying29 ap49 rfl rfl (m := 1) (news := [Value.string abcT, .slice none 0 0]) (fun i hi => at_ownL (vs := [Value.string abcT, .slice none 0 0]) (.head _) (by rw [Nat.zero_add]; exact List.getElem?_eq_getElem hi)) rfl (by simp only [maxLen]; omega) (by omega) ?_
      intro R3 hR3
      refine x_callv rfl rfl rfl Tryz.func22 (by kernel_rfl) rfl (fun w1 hw1 => c_Write (l := List.replicate k2 segA ++ [segA]) w1 (own_row_rd (T := tySeg) (e := 49) (f := fA) (ps := List.replicate k2 segA ++ [segA]) hw1 (fun q hq => List.mem_append_left _ (List.mem_append_right _ hq)) (by rw [List.flatMap_append]; exact hR3) (by simp) (fun _ => rfl) (fA_rd _ _ (rep_a1 k2))) t2) ?_
      refine x_val rfl rfl rfl (v_move rfl) ?_
      refine x_val rfl rfl rfl (v_extract rfl rfl) ?_
      refine x_val rfl rfl rfl (v_extract rfl rfl) ?_
      refine x_val rfl rfl rfl (v_assign rfl) ?_
      refine x_val rfl rfl rfl (v_assign rfl) ?_
      refine x_end ?_
      refine t_norm ?_
      refine w_seq ?_
      refine rg_text ?_
      refine x_val rfl rfl rfl (v_move rfl) ?_
      refine x_val (v := Value.string S1) rfl rfl rfl (by rw [hS1]; exact v_saddL (a := msgA k2) (b := [32]) rfl rfl (by rw [hml]; show _ + 1 ≤ _; omega)) ?_
      refine x_call (R := fun v wa wb => ∃ A c, v = .tuple #[.slice A (parR S1).1.length c, .int .i64 (parR S1).2.1, .int .i64 (parR S1).2.2] ∧ sliceRd tySeg (fun b => wa.heap.size ≤ b) wb (.slice A (parR S1).1.length c) (parR S1).1) rfl rfl rfl Tryz.func23 (by kernel_rfl) rfl (fun w1 hw1 => (c_Parse S1 w1 hp1).mono fun e w2 ⟨v, h1, h2, h3⟩ => by obtain ⟨A, c, rfl, _⟩ := id h3; exact ⟨_, h1, h2, A, c, rfl, h3⟩) ?_
      intro v74 wa74 wb74 hm74 hl74 hR74
      obtain ⟨A74, c74, rfl, hp74⟩ := hR74
      refine x_val rfl rfl rfl (v_move rfl) ?_
      refine x_val rfl rfl rfl (v_extract rfl rfl) ?_
      refine x_val rfl rfl rfl (v_extract rfl rfl) ?_
      refine x_val rfl rfl rfl (v_extract rfl rfl) ?_
      refine x_val rfl rfl rfl (v_assign rfl) ?_
      refine x_val rfl rfl rfl (v_assign rfl) ?_
      refine x_val rfl rfl rfl (v_assign rfl) ?_
      refine x_end ?_
      refine t_norm ?_
      refine w_seq ?_
      refine rg_text ?_
      refine x_val rfl rfl rfl (v_move rfl) ?_
      refine x_val (v := Value.string S2) rfl rfl rfl (by rw [hS2]; exact v_saddL (a := msgA k2) (b := [32, 65]) rfl rfl (by rw [hml]; show _ + 2 ≤ _; omega)) ?_
      refine x_call (R := fun v wa wb => ∃ A c, v = .tuple #[.slice A (parR S2).1.length c, .int .i64 (parR S2).2.1, .int .i64 (parR S2).2.2] ∧ sliceRd tySeg (fun b => wa.heap.size ≤ b) wb (.slice A (parR S2).1.length c) (parR S2).1) rfl rfl rfl Tryz.func23 (by kernel_rfl) rfl (fun w1 hw1 => (c_Parse S2 w1 hp2).mono fun e w2 ⟨v, h1, h2, h3⟩ => by obtain ⟨A, c, rfl, _⟩ := id h3; exact ⟨_, h1, h2, A, c, rfl, h3⟩) ?_
      intro v81 wa81 wb81 hm81 hl81 hR81
      obtain ⟨A81, c81, rfl, hp81⟩ := hR81
      refine x_val rfl rfl rfl (v_move rfl) ?_
      refine x_val rfl rfl rfl (v_extract rfl rfl) ?_
      refine x_val rfl rfl rfl (v_extract rfl rfl) ?_
      refine x_val rfl rfl rfl (v_extract rfl rfl) ?_
      refine x_val rfl rfl rfl (v_assign rfl) ?_
      refine x_val rfl rfl rfl (v_assign rfl) ?_
      refine x_val rfl rfl rfl (v_assign rfl) ?_
      refine x_end ?_
      refine t_norm ?_
      refine w_seq ?_
      refine rg_text ?_
      refine x_val rfl rfl rfl (v_move rfl) ?_
      refine x_val rfl rfl rfl (v_move rfl) ?_
      refine x_if [] rfl rfl rfl rfl rfl (fun hg => by obtain ⟨hg0, _⟩ := hg; (try simp only [List.cons_append, List.nil_append, gvl_nil, gvl_t, gvl_f]); exact v_move rfl) ?_
      refine x_if [] rfl rfl rfl rfl rfl (fun hg => by obtain ⟨hg0, _⟩ := hg; (try simp only [List.cons_append, List.nil_append, gvl_nil, gvl_t, gvl_f]); exact v_len_slice Tryz.underlying29 rfl) ?_
      refine x_ifb [] rfl rfl rfl rfl rfl (fun hg => by obtain ⟨hg0, _⟩ := hg; (try simp only [List.cons_append, List.nil_append, gvl_nil, gvl_t, gvl_f]); exact v_eql rfl rfl) ?_
      intro b89 hb89
      refine x_bool rfl rfl rfl (v_and rfl rfl) ?_
      intro b90 hb90
      refine x_val rfl rfl rfl (v_move rfl) ?_
      refine x_if [] rfl rfl rfl rfl rfl (fun hg => by obtain ⟨hg0, _⟩ := hg; subst hg0; (try simp only [List.cons_append, List.nil_append, gvl_nil, gvl_t, gvl_f]); exact v_move rfl) ?_
      refine x_if [] rfl rfl rfl rfl rfl (fun hg => by obtain ⟨hg0, _⟩ := hg; subst hg0; (try simp only [List.cons_append, List.nil_append, gvl_nil, gvl_t, gvl_f]); exact v_len_slice Tryz.underlying29 rfl) ?_
      refine x_ifb [] rfl rfl rfl rfl rfl (fun hg => by obtain ⟨hg0, _⟩ := hg; subst hg0; (try simp only [List.cons_append, List.nil_append, gvl_nil, gvl_t, gvl_f]); exact v_eql rfl rfl) ?_
      intro b94 hb94
      refine x_bool rfl rfl rfl (v_and rfl rfl) ?_
      intro b95 hb95
      refine x_val rfl rfl rfl (v_move rfl) ?_
      refine x_if [] rfl rfl rfl rfl rfl (fun hg => by obtain ⟨hg0, _⟩ := hg; subst hg0; (try simp only [List.cons_append, List.nil_append, gvl_nil, gvl_t, gvl_f]); exact v_move rfl) ?_
      refine x_if [] rfl rfl rfl rfl rfl (fun hg => by obtain ⟨hg0, _⟩ := hg; subst hg0; (try simp only [List.cons_append, List.nil_append, gvl_nil, gvl_t, gvl_f]); exact v_len_slice Tryz.underlying28 rfl) ?_
      refine x_ifb [] rfl rfl rfl rfl rfl (fun hg => by obtain ⟨hg0, _⟩ := hg; subst hg0; (try simp only [List.cons_append, List.nil_append, gvl_nil, gvl_t, gvl_f]); exact v_eql rfl rfl) ?_
      intro b99 hb99
      refine x_bool rfl rfl rfl (v_and rfl rfl) ?_
      intro b100 hb100
      refine x_val rfl rfl rfl (v_move rfl) ?_
      refine x_if [] rfl rfl rfl rfl rfl (fun hg => by obtain ⟨hg0, _⟩ := hg; subst hg0; (try simp only [List.cons_append, List.nil_append, gvl_nil, gvl_t, gvl_f]); exact v_move rfl) ?_
      refine x_ifb [] rfl rfl rfl rfl rfl (fun hg => by obtain ⟨hg0, _⟩ := hg; subst hg0; (try simp only [List.cons_append, List.nil_append, gvl_nil, gvl_t, gvl_f]); exact v_eql rfl rfl) ?_
      intro b103 hb103
      refine x_bool rfl rfl rfl (v_and rfl rfl) ?_
      intro b104 hb104
      refine x_val rfl rfl rfl (v_move rfl) ?_
      refine x_if [] rfl rfl rfl rfl rfl (fun hg => by obtain ⟨hg0, _⟩ := hg; subst hg0; (try simp only [List.cons_append, List.nil_append, gvl_nil, gvl_t, gvl_f]); exact v_move rfl) ?_
      refine x_ifb [] rfl rfl rfl rfl rfl (fun hg => by obtain ⟨hg0, _⟩ := hg; subst hg0; (try simp only [List.cons_append, List.nil_append, gvl_nil, gvl_t, gvl_f]); exact v_eql rfl rfl) ?_
      intro b107 hb107
      refine x_bool rfl rfl rfl (v_and rfl rfl) ?_
      intro b108 hb108
      refine x_val rfl rfl rfl (v_move rfl) ?_
      refine x_if [] rfl rfl rfl rfl rfl (fun hg => by obtain ⟨hg0, _⟩ := hg; subst hg0; (try simp only [List.cons_append, List.nil_append, gvl_nil, gvl_t, gvl_f]); exact v_move rfl) ?_
      refine x_if [] rfl rfl rfl rfl rfl (fun hg => by obtain ⟨hg0, _⟩ := hg; subst hg0; (try simp only [List.cons_append, List.nil_append, gvl_nil, gvl_t, gvl_f]); exact v_move rfl) ?_
      refine x_ifb [] rfl rfl rfl rfl rfl (fun hg => by obtain ⟨hg0, _⟩ := hg; subst hg0; (try simp only [List.cons_append, List.nil_append, gvl_nil, gvl_t, gvl_f]); exact v_seql rfl rfl) ?_
      intro b112 hb112
      refine x_bool rfl rfl rfl (v_and rfl rfl) ?_
      intro b113 hb113
      refine x_val rfl rfl rfl (v_move rfl) ?_
      refine x_if [] rfl rfl rfl rfl rfl (fun hg => by obtain ⟨hg0, _⟩ := hg; subst hg0; (try simp only [List.cons_append, List.nil_append, gvl_nil, gvl_t, gvl_f]); exact v_move rfl) ?_
      refine x_ifb [] rfl rfl rfl rfl rfl (fun hg => by obtain ⟨hg0, _⟩ := hg; subst hg0; (try simp only [List.cons_append, List.nil_append, gvl_nil, gvl_t, gvl_f]); exact v_eql rfl rfl) ?_
      intro b116 hb116
      refine x_bool rfl rfl rfl (v_and rfl rfl) ?_
      intro b117 hb117
      refine x_val rfl rfl rfl (v_move rfl) ?_
      refine x_if [] rfl rfl rfl rfl rfl (fun hg => by obtain ⟨hg0, _⟩ := hg; subst hg0; (try simp only [List.cons_append, List.nil_append, gvl_nil, gvl_t, gvl_f]); exact v_move rfl) ?_
      refine x_ifb [] rfl rfl rfl rfl rfl (fun hg => by obtain ⟨hg0, _⟩ := hg; subst hg0; (try simp only [List.cons_append, List.nil_append, gvl_nil, gvl_t, gvl_f]); exact v_eql rfl rfl) ?_
      intro b120 hb120
      refine x_bool rfl rfl rfl (v_and rfl rfl) ?_
      intro b121 hb121
      refine x_val rfl rfl rfl (v_move rfl) ?_
      refine x_if [] rfl rfl rfl rfl rfl (fun hg => by obtain ⟨hg0, _⟩ := hg; subst hg0; (try simp only [List.cons_append, List.nil_append, gvl_nil, gvl_t, gvl_f]); exact v_move rfl) ?_
      refine x_if [] rfl rfl rfl rfl rfl (fun hg => by obtain ⟨hg0, _⟩ := hg; subst hg0; (try simp only [List.cons_append, List.nil_append, gvl_nil, gvl_t, gvl_f]); exact v_len_slice Tryz.underlying29 rfl) ?_
      refine x_ifb [] rfl rfl rfl rfl rfl (fun hg => by obtain ⟨hg0, _⟩ := hg; subst hg0; (try simp only [List.cons_append, List.nil_append, gvl_nil, gvl_t, gvl_f]); exact v_eql rfl rfl) ?_
      intro b125 hb125
      refine x_bool rfl rfl rfl (v_and rfl rfl) ?_
      intro b126 hb126
      refine x_val rfl rfl rfl (v_move rfl) ?_
      refine x_if [] rfl rfl rfl rfl rfl (fun hg => by obtain ⟨hg0, _⟩ := hg; subst hg0; (try simp only [List.cons_append, List.nil_append, gvl_nil, gvl_t, gvl_f]); exact v_move rfl) ?_
      refine x_ifb [] rfl rfl rfl rfl rfl (fun hg => by obtain ⟨hg0, _⟩ := hg; subst hg0; (try simp only [List.cons_append, List.nil_append, gvl_nil, gvl_t, gvl_f]); exact v_eql rfl rfl) ?_
      intro b129 hb129
      refine x_bool rfl rfl rfl (v_and rfl rfl) ?_
      intro b130 hb130
      refine x_val rfl rfl rfl (v_move rfl) ?_
      refine x_if [] rfl rfl rfl rfl rfl (fun hg => by obtain ⟨hg0, _⟩ := hg; subst hg0; (try simp only [List.cons_append, List.nil_append, gvl_nil, gvl_t, gvl_f]); exact v_move rfl) ?_
      refine x_ifb [] rfl rfl rfl rfl rfl (fun hg => by obtain ⟨hg0, _⟩ := hg; subst hg0; (try simp only [List.cons_append, List.nil_append, gvl_nil, gvl_t, gvl_f]); exact v_eql rfl rfl) ?_
      intro b133 hb133
      refine x_bool rfl rfl rfl (v_and rfl rfl) ?_
      intro b134 hb134
      refine x_val rfl rfl rfl (v_move rfl) ?_
      refine x_if [] rfl rfl rfl rfl rfl (fun hg => by obtain ⟨hg0, _⟩ := hg; subst hg0; (try simp only [List.cons_append, List.nil_append, gvl_nil, gvl_t, gvl_f]); exact v_move rfl) ?_
      refine x_ifb [] rfl rfl rfl rfl rfl (fun hg => by obtain ⟨hg0, _⟩ := hg; subst hg0; (try simp only [List.cons_append, List.nil_append, gvl_nil, gvl_t, gvl_f]); exact v_eql rfl rfl) ?_
      intro b137 hb137
      refine x_bool rfl rfl rfl (v_and rfl rfl) ?_
      intro b138 hb138
      refine x_val rfl rfl rfl (v_assign rfl) ?_
      refine x_end ?_
      refine t_norm ?_
      refine w_ret ?_
      refine ret1 rfl rfl (fun w' hm => ⟨?_, hm.base (by simp)⟩)
      rw [hb138, hb137, hb134, hb133, hb130, hb129, hb126, hb125, hb121, hb120, hb117, hb116, hb113, hb112, hb108, hb107, hb104, hb103, hb100, hb99, hb95, hb94, hb90, hb89, y1, y2, y3, y4, y5, w1e, w2e, m1, m2, m3, m4]
      simp

end Go.Proofs.YtbamklefagghcaaGreatDoor

namespace Go.Proofs.YtbamklefagghcaaGreatDoor
open Go.RowKit Go.PK
set_option linter.unusedVariables false
set_option linter.unusedSimpArgs false

def laidL : List (String × DataW Unit) := [("math/bits.deBruijn32tab", Rows.laid_math_bits_deBruijn32tab), ("math/bits.deBruijn64tab", Rows.laid_math_bits_deBruijn64tab), ("internal/strconv.uint64pow10", Rows.laid_internal_strconv_uint64pow10), ("unicode/utf8.acceptRanges", Rows.laid_unicode_utf8_acceptRanges), ("strconv.ErrRange", Rows.laid_strconv_ErrRange), ("strconv.ErrSyntax", Rows.laid_strconv_ErrSyntax), ("unicode/utf8.first", Rows.laid_unicode_utf8_first)]
theorem noHandle {W : World} (h : laidMetH Tryz.prog laidL W) : laidMet Tryz.prog laidL W := by
  have h1 := (laidMetH_iff.1 h).1
  rwa [show (laidL.filter fun x => x.2.handleName?.isNone) = laidL from by kernel_rfl] at h1
theorem laid_tab {W : World} (h : laidMet Tryz.prog laidL W) : Lib.TabIs Tryz.prog W "internal/strconv.uint64pow10" .u64 Lib.pow10Tab := by
  have h1 := h.filter fun x => x.1 == "internal/strconv.uint64pow10"
  have e : (laidL.filter fun x => x.1 == "internal/strconv.uint64pow10") = [("internal/strconv.uint64pow10", Lib.tabData .u64 Lib.pow10Tab)] := by kernel_rfl
  rw [e] at h1
  exact Lib.tabIs_of_head (g := 3) (t := 160) (e := 146) (n := 20) (by kernel_rfl) (by kernel_rfl) (by kernel_rfl) (by kernel_rfl) (by kernel_rfl) (by kernel_rfl) h1
theorem star : "*" ++ "errors.errorString" = "*errors.errorString" := by decide
theorem row104 (u : TypeId) (h : Tryz.prog.typeName? 3 u = some "*errors.errorString") : u = 165 :=
  typeName_ptr_named (nm := "errors.errorString") (by rw [star]; kernel_rfl) (by kernel_rfl) (by decide) u (by rw [star]; exact h)
theorem laid_syn {W : World} (h : laidMet Tryz.prog laidL W) : ∃ tp p, W.var? Tryz.prog "strconv.ErrSyntax" = some #[.iface tp p] := by
  have h1 := h.filter fun x => x.1 == "strconv.ErrSyntax"
  have e : (laidL.filter fun x => x.1 == "strconv.ErrSyntax") = [("strconv.ErrSyntax", .iface "*errors.errorString" (.ptr (.agg [.lit (.string [105, 110, 118, 97, 108, 105, 100, 32, 115, 121, 110, 116, 97, 120])])))] := by kernel_rfl
  rw [e] at h1
  obtain ⟨a0, s0, hv0, _⟩ := laid_sentinel (g := 0) (ti := 84) (tp := 165) (te := 167) (ts := 9) h1 (by kernel_rfl) (by kernel_rfl) Tryz.underlying84 row104 Tryz.underlying165 Tryz.underlying167 rfl rfl Tryz.underlying9 (by kernel_rfl) (by kernel_rfl)
  exact ⟨_, _, hv0⟩
theorem laid_rng {W : World} (h : laidMet Tryz.prog laidL W) : ∃ tp p, W.var? Tryz.prog "strconv.ErrRange" = some #[.iface tp p] := by
  have h1 := h.filter fun x => x.1 == "strconv.ErrRange"
  have e : (laidL.filter fun x => x.1 == "strconv.ErrRange") = [("strconv.ErrRange", .iface "*errors.errorString" (.ptr (.agg [.lit (.string [118, 97, 108, 117, 101, 32, 111, 117, 116, 32, 111, 102, 32, 114, 97, 110, 103, 101])])))] := by kernel_rfl
  rw [e] at h1
  obtain ⟨a0, s0, hv0, _⟩ := laid_sentinel (g := 1) (ti := 84) (tp := 165) (te := 167) (ts := 9) h1 (by kernel_rfl) (by kernel_rfl) Tryz.underlying84 row104 Tryz.underlying165 Tryz.underlying167 rfl rfl Tryz.underlying9 (by kernel_rfl) (by kernel_rfl)
  exact ⟨_, _, hv0⟩

theorem ld_of {W : World} (h : laidMetH Tryz.prog laidL W) (hS : W.ShapedOpen Tryz.prog) : LD W := ⟨laid_tab (noHandle h), Tryz.laysM146.s1_3 W hS, laid_syn (noHandle h), laid_rng (noHandle h)⟩
theorem laid_met (os : Os) (args : Array Value) : laidMet Tryz.prog laidL ((World.laidAll Tryz.prog os laidL).forCall (fun _ _ => 0) ⟨#[], args, []⟩).memory :=
  laidMet_laidAll args (by kernel_rfl) (by kernel_rfl)
theorem bulk_one {H : Type} (d : DataW H) : 1 ≤ Rows.uptoBulk d := by
  cases d with
  | lit l => cases l <;> simp [Rows.uptoBulk]
  | nil => simp [Rows.uptoBulk]
  | ptr d => simp [Rows.uptoBulk]
  | slice elems spare => simp [Rows.uptoBulk]
  | agg parts => simp [Rows.uptoBulk]
  | iface t d => simp [Rows.uptoBulk]
  | map entries => simp [Rows.uptoBulk]
  | held h => simp [Rows.uptoBulk]
def meas (H : Type) : Meas H := ⟨Rows.uptoBulk, Rows.uptoBulkAll, fun _ => by simp [Rows.uptoBulk], fun _ _ => by simp [Rows.uptoBulk], fun _ => by simp [Rows.uptoBulk], fun _ _ => by simp [Rows.uptoBulkAll], bulk_one⟩

end Go.Proofs.YtbamklefagghcaaGreatDoor

namespace Go.Proofs.YtbamklefagghcaaGreatDoor
open Go.RowKit Go.PK
set_option linter.unusedVariables false
set_option linter.unusedSimpArgs false
end Go.Proofs.YtbamklefagghcaaGreatDoor
