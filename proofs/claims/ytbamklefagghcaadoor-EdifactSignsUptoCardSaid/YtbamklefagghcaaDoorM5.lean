/- Of the proofs of YtbamklefagghcaaDoor: Wo Wp Wq Wr Wt, put together. -/
import Derived.Test.YtbamklefagghcaaDoorM4
import Derived.Test.YtbamklefagghcaaDoorM2
import Derived.Test.YtbamklefagghcaaDoorM1
import Derived.Lib.SmallJoins
import Derived.Test.YtbamklefagghcaaDoorShelf
import Derived.Test.YtbamklefagghcaaDoorM3
namespace Go.Proofs.YtbamklefagghcaaDoor
open Go.RowKit Go.PK
set_option linter.unusedVariables false
set_option linter.unusedSimpArgs false
set_option maxRecDepth 100000 in
theorem c_rWrite {v : Value} {l : List Seg} {D : Nat → Prop} (w : World) (hl : sliceRd tySeg D w v l) (hT : (wrT l).length ≤ 2000000000000) :
    Calls Tryd.prog 12 #[v] w fun e w' => e = .returned (.tuple #[.string (wrR l).1, .int .i64 (wrR l).2]) ∧ Later w w' := by
  obtain ⟨A, cp, rfl, hlc, hmx, _⟩ := id hl
  refine enter (vs := [.slice A l.length cp]) Tryd.func12 rfl Tryd.ntmps12 rfl ?_
  refine w_seq ?_
  refine rg_text ?_
  refine x_val rfl rfl rfl (v_assign rfl) ?_
  refine x_val rfl rfl rfl (v_assign rfl) ?_
  refine x_end ?_
  refine t_norm ?_
  refine w_seq ?_
  refine w_seq ?_
  refine rg_text ?_
  refine x_val rfl rfl rfl (v_move rfl) ?_
  refine x_val rfl rfl rfl (v_len_slice Tryd.underlying26 rfl) ?_
  refine x_bool rfl rfl rfl (v_gtr rfl rfl) ?_
  intro b15 hb15
  refine x_end ?_
  refine t_norm ?_
  refine w_cond rfl (fun hc15 => ?_) (fun hc15 => ?_)
  · simp only [hb15, decide_eq_true_eq, decide_eq_false_iff_not, Bool.and_eq_true, Bool.or_eq_true, Bool.and_eq_false_iff, Bool.or_eq_false_iff, Bool.not_eq_true', Bool.not_eq_false', ne_eq, Decidable.not_not] at hc15
    have hmany : l.length > 10000 := by omega
    refine w_seq ?_
    refine rg_text ?_
    refine x_val rfl rfl rfl (v_assign rfl) ?_
    refine x_val rfl rfl rfl (v_assign rfl) ?_
    refine x_end ?_
    refine t_norm ?_
    refine w_ret ?_
    refine t_ret ?_
    refine ret2 rfl rfl rfl (fun w' hm' => ⟨?_, hm'.base (by simp)⟩)
    rw [wrR_many hmany]
  · simp only [hb15, decide_eq_false_iff_not] at hc15
    have hmany : ¬l.length > 10000 := by omega
    refine w_skip ?_
    refine t_norm ?_
    refine w_seq ?_
    refine rg_text ?_
    refine x_val rfl rfl rfl (v_assign rfl) ?_
    refine x_end ?_
    refine t_norm ?_
    refine w_seq ?_
    refine w_seq ?_
    refine rg_text ?_
    refine x_val rfl rfl rfl (v_assign rfl) ?_
    refine x_end ?_
    refine t_norm ?_
    refine w_block ?_
    refine w_loop (σ := Nat × List UInt8) (fun x => x.1 ≤ l.length ∧ x.2 ++ wrT (l.drop x.1) = wrT l ∧ ∀ j (h : j < l.length), j < x.1 → goodW j l[j]) (fun x => [(0, Value.slice A l.length cp), (4, Value.string ⟨(x.2).toArray⟩), (5, Value.int .i64 (x.1 : Nat))]) (fun x => []) (fun x => [(w, fun _ => True)]) (fun x => l.length - x.1) ((0, [])) (⟨Nat.zero_le _, rfl, fun j h hj => by omega⟩) (l_start (by repeat (first | exact Sub.nil | refine Sub.cons rfl ?_)) (fun _ h => h)) ?_
    rintro ⟨k, bs⟩ ⟨hk, hB, hgood⟩
    refine w_state ([(0, Value.slice A l.length cp), (4, Value.string ⟨(bs).toArray⟩), (5, Value.int .i64 (k : Nat))]) ([]) ([(w, fun _ => True)]) ?_
    dsimp only at hk hB hgood
    have hlen := len_le hB hT
    refine w_seq ?_
    refine w_seq ?_
    refine rg_text ?_
    refine x_val rfl rfl rfl (v_move rfl) ?_
    refine x_val rfl rfl rfl (v_move rfl) ?_
    refine x_val rfl rfl rfl (v_len_slice Tryd.underlying26 rfl) ?_
    refine x_bool rfl rfl rfl (v_lss rfl rfl) ?_
    intro b19 hb19
    refine x_end ?_
    refine t_norm ?_
    refine w_cond rfl (fun hc19 => ?_) (fun hc19 => ?_)
    · simp only [hb19, decide_eq_true_eq, decide_eq_false_iff_not, Bool.and_eq_true, Bool.or_eq_true, Bool.and_eq_false_iff, Bool.or_eq_false_iff, Bool.not_eq_true', Bool.not_eq_false', ne_eq, Decidable.not_not] at hc19
      have hkl : k < l.length := by omega
      obtain ⟨b1, o1, u1, hA1, _, ht1, hv1, hk1, hr1⟩ := seg_at hl hkl
      obtain ⟨A7, c7, rfl, hl7, hm7, _⟩ := id hr1
      refine w_skip ?_
      refine t_norm ?_
      refine w_seq ?_
      refine w_block ?_
      refine w_seq ?_
      refine rg_text ?_
      refine x_val rfl rfl rfl (v_move rfl) ?_
      refine x_val rfl rfl rfl (v_move rfl) ?_
      refine x_val rfl rfl rfl (v_indexAddr Tryd.underlying26 sz40 (congrArg (fun A => some (Value.slice A l.length cp)) hA1) rfl (by first | omega | (dsimp only; omega)) rfl) ?_
      refine x_val rfl rfl rfl (v_fieldAddr Tryd.underlying40 rfl sz9 (by decide) rfl rfl) ?_
      refine x_val rfl rfl rfl (v_load Tryd.underlying9 rfl rfl (at_ro (.head _) trivial ht1)) ?_
      refine x_val rfl rfl rfl (v_assign rfl) ?_
      refine x_end ?_
      refine t_norm ?_
      refine w_seq ?_
      refine w_seq ?_
      refine rg_text ?_
      refine x_val rfl rfl rfl (v_move rfl) ?_
      refine x_val rfl rfl rfl (v_len_str Tryd.underlying9 rfl) ?_
      refine x_bool rfl rfl rfl (v_neq rfl rfl) ?_
      intro b29 hb29
      refine x_val rfl rfl rfl (v_move rfl) ?_
      refine x_if [] rfl rfl rfl rfl rfl (fun hg => by obtain ⟨hg0, _⟩ := hg; subst hg0; (try simp only [List.cons_append, List.nil_append, gvl_nil, gvl_t, gvl_f]); exact v_move rfl) ?_
      refine x_ifb [] rfl rfl rfl rfl rfl (fun hg => by obtain ⟨hg0, _⟩ := hg; subst hg0; (try simp only [List.cons_append, List.nil_append, gvl_nil, gvl_t, gvl_f]); exact v_eql rfl rfl) ?_
      intro b32 hb32
      refine x_if [] rfl rfl rfl rfl rfl (fun hg => by obtain ⟨hg0, _⟩ := hg; subst hg0; (try simp only [List.cons_append, List.nil_append, gvl_nil, gvl_t, gvl_f]); exact v_move rfl) ?_
      refine x_if [(b29, false)] rfl rfl rfl rfl rfl (fun hg => by obtain ⟨hg0, hg1, _⟩ := hg; subst hg0; subst hg1; (try simp only [List.cons_append, List.nil_append, gvl_nil, gvl_t, gvl_f]); exact v_move rfl) ?_
      refine x_ifb [(b29, false)] rfl rfl rfl rfl rfl (fun hg => by obtain ⟨hg0, hg1, _⟩ := hg; subst hg0; subst hg1; (try simp only [List.cons_append, List.nil_append, gvl_nil, gvl_t, gvl_f]); exact v_seql rfl rfl) ?_
      intro b35 hb35
      refine x_ifb [] rfl rfl rfl rfl rfl (fun hg => by obtain ⟨hg0, _⟩ := hg; subst hg0; (try simp only [List.cons_append, List.nil_append, gvl_nil, gvl_t, gvl_f]); exact v_and rfl rfl) ?_
      intro b36 hb36
      refine x_bool rfl rfl rfl (v_or rfl rfl) ?_
      intro b37 hb37
      refine x_end ?_
      refine t_norm ?_
      refine w_cond rfl (fun hc37 => ?_) (fun hc37 => ?_)
      · simp only [hb37, hb36, hb35, hb32, hb29, decide_eq_true_eq, decide_eq_false_iff_not, Bool.and_eq_true, Bool.or_eq_true, Bool.and_eq_false_iff, Bool.or_eq_false_iff, Bool.not_eq_true', Bool.not_eq_false', ne_eq, Decidable.not_not] at hc37
        have hbad : ¬goodW k l[k] := fun ⟨h1, h2⟩ => by rcases hc37 with h | h; (· exact h (by have := rightSg_tag h1; omega)); exact h2 ⟨by omega, h.2⟩
        refine w_seq ?_
        refine rg_text ?_
        refine x_val rfl rfl rfl (v_assign rfl) ?_
        refine x_val rfl rfl rfl (v_assign rfl) ?_
        refine x_end ?_
        refine t_norm ?_
        refine w_ret ?_
        refine t_ret ?_
        refine b_ret ?_
        refine t_ret ?_
        refine t_ret ?_
        refine b_ret ?_
        refine t_ret ?_
        refine ret2 rfl rfl rfl (fun w' hm' => ⟨?_, hm'.base (by simp)⟩)
        rw [wrR_bad hmany hkl hbad]
      · simp only [hb37, hb36, hb35, hb32, hb29, decide_eq_true_eq, decide_eq_false_iff_not, Bool.and_eq_true, Bool.or_eq_true, Bool.and_eq_false_iff, Bool.or_eq_false_iff, Bool.not_eq_true', Bool.not_eq_false', ne_eq, Decidable.not_not] at hc37
        have ht3 : l[k].tag.size = 3 := by omega
        have hnu : ¬(k = 0 ∧ l[k].tag = unaT) := fun h => by rcases hc37.2 with h2 | h2; (· exact h2 (by omega)); exact h2 h.2
        refine w_skip ?_
        refine t_norm ?_
        refine w_seq ?_
        refine rg_text ?_
        refine x_val rfl rfl rfl (v_move rfl) ?_
        refine x_val rfl rfl rfl (v_index (j := 0) Tryd.underlying9 rfl rfl (by omega)) ?_
        refine x_callb rfl rfl rfl Tryd.func20 (by kernel_rfl) rfl (fun w1 hw1 => c_rcapital _ w1) ?_
        intro b40 hb40
        refine x_val rfl rfl rfl (v_assign rfl) ?_
        refine x_end ?_
        refine t_norm ?_
        refine w_seq ?_
        refine rg_text ?_
        refine x_val rfl rfl rfl (v_move rfl) ?_
        refine x_val rfl rfl rfl (v_index (j := 1) Tryd.underlying9 rfl rfl (by omega)) ?_
        refine x_callb rfl rfl rfl Tryd.func20 (by kernel_rfl) rfl (fun w1 hw1 => c_rcapital _ w1) ?_
        intro b43 hb43
        refine x_val rfl rfl rfl (v_assign rfl) ?_
        refine x_end ?_
        refine t_norm ?_
        refine w_seq ?_
        refine rg_text ?_
        refine x_val rfl rfl rfl (v_move rfl) ?_
        refine x_val rfl rfl rfl (v_index (j := 2) Tryd.underlying9 rfl rfl (by omega)) ?_
        refine x_callb rfl rfl rfl Tryd.func20 (by kernel_rfl) rfl (fun w1 hw1 => c_rcapital _ w1) ?_
        intro b46 hb46
        refine x_val rfl rfl rfl (v_assign rfl) ?_
        refine x_end ?_
        refine t_norm ?_
        refine w_seq ?_
        refine w_seq ?_
        refine rg_text ?_
        refine x_val rfl rfl rfl (v_move rfl) ?_
        refine x_bool rfl rfl rfl (v_not rfl) ?_
        intro b48 hb48
        refine x_val rfl rfl rfl (v_move rfl) ?_
        refine x_if [] rfl rfl rfl rfl rfl (fun hg => by obtain ⟨hg0, _⟩ := hg; subst hg0; (try simp only [List.cons_append, List.nil_append, gvl_nil, gvl_t, gvl_f]); exact v_move rfl) ?_
        refine x_ifb [] rfl rfl rfl rfl rfl (fun hg => by obtain ⟨hg0, _⟩ := hg; subst hg0; (try simp only [List.cons_append, List.nil_append, gvl_nil, gvl_t, gvl_f]); exact v_not rfl) ?_
        intro b51 hb51
        refine x_bool rfl rfl rfl (v_or rfl rfl) ?_
        intro b52 hb52
        refine x_val rfl rfl rfl (v_move rfl) ?_
        refine x_if [] rfl rfl rfl rfl rfl (fun hg => by obtain ⟨hg0, _⟩ := hg; subst hg0; (try simp only [List.cons_append, List.nil_append, gvl_nil, gvl_t, gvl_f]); exact v_move rfl) ?_
        refine x_ifb [] rfl rfl rfl rfl rfl (fun hg => by obtain ⟨hg0, _⟩ := hg; subst hg0; (try simp only [List.cons_append, List.nil_append, gvl_nil, gvl_t, gvl_f]); exact v_not rfl) ?_
        intro b55 hb55
        refine x_bool rfl rfl rfl (v_or rfl rfl) ?_
        intro b56 hb56
        refine x_end ?_
        refine t_norm ?_
        refine w_cond rfl (fun hc56 => ?_) (fun hc56 => ?_)
        · have hbad : ¬goodW k l[k] := fun ⟨h1, h2⟩ => by
            unfold rightSg at h1
            rw [any_cap ht3] at h1
            rw [hb56, hb55, hb52, hb51, hb48, hb46, hb43, hb40] at hc56
            revert h1 hc56
            cases capB (byteAt l[k].tag 0) <;> cases capB (byteAt l[k].tag 1) <;> cases capB (byteAt l[k].tag 2) <;> simp
          refine w_seq ?_
          refine rg_text ?_
          refine x_val rfl rfl rfl (v_assign rfl) ?_
          refine x_val rfl rfl rfl (v_assign rfl) ?_
          refine x_end ?_
          refine t_norm ?_
          refine w_ret ?_
          refine t_ret ?_
          refine b_ret ?_
          refine t_ret ?_
          refine t_ret ?_
          refine b_ret ?_
          refine t_ret ?_
          refine ret2 rfl rfl rfl (fun w' hm' => ⟨?_, hm'.base (by simp)⟩)
          rw [wrR_bad hmany hkl hbad]
        · have hcap : (bl l[k].tag).any (fun c => !capB c) = false := by
            rw [any_cap ht3]
            rw [hb56, hb55, hb52, hb51, hb48, hb46, hb43, hb40] at hc56
            revert hc56
            cases capB (byteAt l[k].tag 0) <;> cases capB (byteAt l[k].tag 1) <;> cases capB (byteAt l[k].tag 2) <;> simp
          refine w_skip ?_
          refine t_norm ?_
          refine w_seq ?_
          refine rg_text ?_
          refine x_val rfl rfl rfl (v_move rfl) ?_
          refine x_val rfl rfl rfl (v_move rfl) ?_
          refine x_val (v := .string ⟨(bs ++ bl l[k].tag).toArray⟩) rfl rfl rfl (by rw [← str_app]; exact v_sadd rfl rfl (by rw [mk_size]; omega)) ?_
          refine x_val rfl rfl rfl (v_assign rfl) ?_
          refine x_end ?_
          refine t_norm ?_
          refine w_seq ?_
          refine w_seq ?_
          refine rg_text ?_
          refine x_val rfl rfl rfl (v_assign rfl) ?_
          refine x_end ?_
          refine t_norm ?_
          refine w_block ?_
          refine w_loop (σ := Nat × List UInt8) (fun x => x.1 ≤ l[k].els.length ∧ x.2 ++ ((l[k].els.drop x.1).flatMap (elT 43) ++ ([39] ++ wrT (l.drop (k + 1)))) = wrT l ∧ ∀ i (h : i < l[k].els.length), i < x.1 → (l[k].els[i]).isEmpty = false) (fun x => [(0, Value.slice A l.length cp), (4, Value.string ⟨(x.2).toArray⟩), (5, Value.int .i64 (k : Nat)), (10, Value.int .i64 (x.1 : Nat))]) (fun x => []) (fun x => [(w, fun _ => True)]) (fun x => l[k].els.length - x.1) ((0, bs ++ bl l[k].tag)) (⟨Nat.zero_le _, by dsimp only; rw [List.drop_zero, List.append_assoc, ← wrT_drop hkl]; exact hB, fun i h hi => by omega⟩) (l_start (by repeat (first | exact Sub.nil | refine Sub.cons rfl ?_)) (fun _ h => h)) ?_
          rintro ⟨j, bs⟩ ⟨hj, hB, hne⟩
          refine w_state ([(0, Value.slice A l.length cp), (4, Value.string ⟨(bs).toArray⟩), (5, Value.int .i64 (k : Nat)), (10, Value.int .i64 (j : Nat))]) ([]) ([(w, fun _ => True)]) ?_
          dsimp only at hj hB hne
          have hlen := len_le hB hT
          refine w_seq ?_
          refine w_seq ?_
          refine rg_text ?_
          refine x_val rfl rfl rfl (v_move rfl) ?_
          refine x_val rfl rfl rfl (v_move rfl) ?_
          refine x_val rfl rfl rfl (v_move rfl) ?_
          refine x_val rfl rfl rfl (v_indexAddr Tryd.underlying26 sz40 (congrArg (fun A => some (Value.slice A l.length cp)) hA1) rfl (by first | omega | (dsimp only; omega)) rfl) ?_
          refine x_val rfl rfl rfl (v_fieldAddr Tryd.underlying40 rfl sz38 (by decide) rfl rfl) ?_
          refine x_val rfl rfl rfl (v_load Tryd.underlying38 rfl rfl (at_ro (.head _) trivial hv1)) ?_
          refine x_val rfl rfl rfl (v_len_slice Tryd.underlying38 rfl) ?_
          refine x_bool rfl rfl rfl (v_lss rfl rfl) ?_
          intro b67 hb67
          refine x_end ?_
          refine t_norm ?_
          refine w_cond rfl (fun hc67 => ?_) (fun hc67 => ?_)
          · simp only [hb67, decide_eq_true_eq, decide_eq_false_iff_not, Bool.and_eq_true, Bool.or_eq_true, Bool.and_eq_false_iff, Bool.or_eq_false_iff, Bool.not_eq_true', Bool.not_eq_false', ne_eq, Decidable.not_not] at hc67
            have hjl : j < l[k].els.length := by omega
            obtain ⟨b2, o2, u2, hA2, _, hc2, hr2⟩ := sl_at hr1 hjl
            obtain ⟨A8, c8, rfl, hl8, hm8, _⟩ := id hr2
            obtain ⟨ee, hee⟩ : ∃ ee, l[k].els[j] = ee := ⟨_, rfl⟩
            rw [hee] at hr2 hc2 hl8 hm8
            refine w_skip ?_
            refine t_norm ?_
            refine w_seq ?_
            refine w_block ?_
            refine w_seq ?_
            refine rg_text ?_
            refine x_val rfl rfl rfl (v_move rfl) ?_
            refine x_val rfl rfl rfl (v_move rfl) ?_
            refine x_val rfl rfl rfl (v_indexAddr Tryd.underlying26 sz40 (congrArg (fun A => some (Value.slice A l.length cp)) hA1) rfl (by first | omega | (dsimp only; omega)) rfl) ?_
            refine x_val rfl rfl rfl (v_fieldAddr Tryd.underlying40 rfl sz38 (by decide) rfl rfl) ?_
            refine x_val rfl rfl rfl (v_load Tryd.underlying38 rfl rfl (at_ro (.head _) trivial hv1)) ?_
            refine x_val rfl rfl rfl (v_move rfl) ?_
            refine x_val rfl rfl rfl (v_indexAddr Tryd.underlying38 sz25 (congrArg (fun A => some (Value.slice A l[k].els.length c7)) hA2) rfl (by first | omega | (dsimp only; omega)) rfl) ?_
            refine x_val rfl rfl rfl (v_load Tryd.underlying25 rfl rfl (at_ro (.head _) trivial (by rw [Nat.mul_one]; exact hc2))) ?_
            refine x_val rfl rfl rfl (v_assign rfl) ?_
            refine x_end ?_
            refine t_norm ?_
            refine w_seq ?_
            refine w_seq ?_
            refine rg_text ?_
            refine x_val rfl rfl rfl (v_move rfl) ?_
            refine x_val rfl rfl rfl (v_len_slice Tryd.underlying25 rfl) ?_
            refine x_bool rfl rfl rfl (v_eql rfl rfl) ?_
            intro b80 hb80
            refine x_end ?_
            refine t_norm ?_
            refine w_cond rfl (fun hc80 => ?_) (fun hc80 => ?_)
            · simp only [hb80, decide_eq_true_eq, decide_eq_false_iff_not, Bool.and_eq_true, Bool.or_eq_true, Bool.and_eq_false_iff, Bool.or_eq_false_iff, Bool.not_eq_true', Bool.not_eq_false', ne_eq, Decidable.not_not] at hc80
              have hbad : ¬goodW k l[k] := fun ⟨h1, h2⟩ => by
                unfold rightSg at h1
                have h3 : l[k].els.any List.isEmpty = true := List.any_eq_true.2 ⟨_, List.getElem_mem hjl, by rw [hee]; exact List.isEmpty_iff.2 (List.eq_nil_of_length_eq_zero (by omega))⟩
                rw [h3] at h1; simp at h1
              refine w_seq ?_
              refine rg_text ?_
              refine x_val rfl rfl rfl (v_assign rfl) ?_
              refine x_val rfl rfl rfl (v_assign rfl) ?_
              refine x_end ?_
              refine t_norm ?_
              refine w_ret ?_
              refine t_ret ?_
              refine b_ret ?_
              refine t_ret ?_
              refine t_ret ?_
              refine b_ret ?_
              refine t_ret ?_
              refine b_ret ?_
              refine t_ret ?_
              refine t_ret ?_
              refine b_ret ?_
              refine t_ret ?_
              refine ret2 rfl rfl rfl (fun w' hm' => ⟨?_, hm'.base (by simp)⟩)
              rw [wrR_bad hmany hkl hbad]
            · simp only [hb80, decide_eq_true_eq, decide_eq_false_iff_not, Bool.and_eq_true, Bool.or_eq_true, Bool.and_eq_false_iff, Bool.or_eq_false_iff, Bool.not_eq_true', Bool.not_eq_false', ne_eq, Decidable.not_not] at hc80
              have hem : (l[k].els[j]).isEmpty = false := by rw [hee]; cases ee with | nil => exact absurd rfl hc80 | cons => rfl
              refine w_skip ?_
              refine t_norm ?_
              refine w_seq ?_
              refine rg_text ?_
              refine x_val rfl rfl rfl (v_assign rfl) ?_
              refine x_end ?_
              refine t_norm ?_
              refine w_block ?_
              refine w_loop (σ := Nat × List UInt8) (fun x => x.1 ≤ ee.length ∧ x.2 ++ (elT (sepB x.1) (ee.drop x.1) ++ ((l[k].els.drop (j + 1)).flatMap (elT 43) ++ ([39] ++ wrT (l.drop (k + 1))))) = wrT l) (fun x => [(0, Value.slice A l.length cp), (4, Value.string ⟨(x.2).toArray⟩), (5, Value.int .i64 (k : Nat)), (10, Value.int .i64 (j : Nat)), (11, Value.slice A8 ee.length c8), (12, Value.int .i64 (x.1 : Nat))]) (fun x => []) (fun x => [(w, fun _ => True)]) (fun x => ee.length - x.1) ((0, bs)) (⟨Nat.zero_le _, by dsimp only; rw [List.drop_zero, ← hB, els_drop hjl, hee]; simp only [List.append_assoc]; rfl⟩) (l_start (by repeat (first | exact Sub.nil | refine Sub.cons rfl ?_)) (fun _ h => h)) ?_
              rintro ⟨i, bs⟩ ⟨hi, hB⟩
              refine w_state ([(0, Value.slice A l.length cp), (4, Value.string ⟨(bs).toArray⟩), (5, Value.int .i64 (k : Nat)), (10, Value.int .i64 (j : Nat)), (11, Value.slice A8 ee.length c8), (12, Value.int .i64 (i : Nat))]) ([]) ([(w, fun _ => True)]) ?_
              dsimp only at hi hB
              have hlen := len_le hB hT
              refine w_seq ?_
              refine w_seq ?_
              refine rg_text ?_
              refine x_val rfl rfl rfl (v_move rfl) ?_
              refine x_val rfl rfl rfl (v_move rfl) ?_
              refine x_val rfl rfl rfl (v_len_slice Tryd.underlying25 rfl) ?_
              refine x_bool rfl rfl rfl (v_lss rfl rfl) ?_
              intro b84 hb84
              refine x_end ?_
              refine t_norm ?_
              refine w_cond rfl (fun hc84 => ?_) (fun hc84 => ?_)
              · simp only [hb84, decide_eq_true_eq, decide_eq_false_iff_not, Bool.and_eq_true, Bool.or_eq_true, Bool.and_eq_false_iff, Bool.or_eq_false_iff, Bool.not_eq_true', Bool.not_eq_false', ne_eq, Decidable.not_not] at hc84
                have hil : i < ee.length := by omega
                obtain ⟨b3, o3, hA3, _, hc3, hok3⟩ := s_at hr2 hil
                unfold okS at hok3
                rw [elT_drop hil] at hB
                have hesc : (escL (bl ee[i])).length ≤ 2000000000000 := by have := congrArg List.length hB; simp at this; omega
                have hts : ee[i].size ≤ 2000000000000 := by have := esc_len (bl ee[i]); rw [bl_len] at this; omega
                refine w_skip ?_
                refine t_norm ?_
                refine w_seq ?_
                refine w_block ?_
                refine w_seq ?_
                refine w_seq ?_
                refine rg_text ?_
                refine x_val rfl rfl rfl (v_move rfl) ?_
                refine x_bool rfl rfl rfl (v_eql rfl rfl) ?_
                intro b88 hb88
                refine x_end ?_
                refine t_norm ?_
                refine w_cond rfl (fun hc88 => ?_) (fun hc88 => ?_)
                · simp only [hb88, decide_eq_true_eq, decide_eq_false_iff_not, Bool.and_eq_true, Bool.or_eq_true, Bool.and_eq_false_iff, Bool.or_eq_false_iff, Bool.not_eq_true', Bool.not_eq_false', ne_eq, Decidable.not_not] at hc88
                  obtain rfl : i = 0 := by omega
                  refine rg_text ?_
                  refine x_val rfl rfl rfl (v_move rfl) ?_
                  refine x_val (v := .string ⟨(bs ++ ([43] : List UInt8)).toArray⟩) rfl rfl rfl (by rw [← str_app2 (bs) (([43] : List UInt8))]; exact v_sadd (s := ⟨(bs).toArray⟩) (u := ⟨(([43] : List UInt8)).toArray⟩) rfl rfl (by rw [mk_size, mk_size]; simp only [List.length_append, List.length_cons, List.length_nil]; omega)) ?_
                  refine x_val rfl rfl rfl (v_assign rfl) ?_
                  refine x_end ?_
                  refine t_norm ?_
                  refine rg_text ?_
                  refine x_val rfl rfl rfl (v_move rfl) ?_
                  refine x_val rfl rfl rfl (v_move rfl) ?_
                  refine x_val rfl rfl rfl (v_move rfl) ?_
                  refine x_val rfl rfl rfl (v_indexAddr Tryd.underlying25 sz9 (congrArg (fun A => some (Value.slice A ee.length c8)) hA3) rfl (by first | omega | (dsimp only; omega)) rfl) ?_
                  refine x_val rfl rfl rfl (v_load Tryd.underlying9 rfl rfl (at_ro (.head _) trivial (by rw [Nat.mul_one]; exact hc3))) ?_
                  refine x_callv rfl rfl rfl Tryd.func29 (by kernel_rfl) rfl (fun w1 hw1 => c_esc _ w1 hesc (by omega)) ?_
                  refine x_val (v := .string ⟨((bs ++ ([43] : List UInt8)) ++ escL (bl ee[0])).toArray⟩) rfl rfl rfl (by rw [← str_app2 ((bs ++ ([43] : List UInt8))) (escL (bl ee[0]))]; exact v_sadd (s := ⟨((bs ++ ([43] : List UInt8))).toArray⟩) (u := ⟨(escL (bl ee[0])).toArray⟩) rfl rfl (by rw [mk_size, mk_size]; simp only [List.length_append, List.length_cons, List.length_nil]; omega)) ?_
                  refine x_val rfl rfl rfl (v_assign rfl) ?_
                  refine x_end ?_
                  refine b_norm ?_
                  refine t_norm ?_
                  refine rg_text ?_
                  refine x_val rfl rfl rfl (v_move rfl) ?_
                  refine x_val rfl rfl rfl (v_addi rfl rfl rfl (by first | omega | (dsimp only; omega))) ?_
                  refine x_val rfl rfl rfl (v_assign rfl) ?_
                  refine x_end ?_
                  exact l_norm (1, (bs ++ ([43] : List UInt8)) ++ escL (bl ee[0])) (⟨by dsimp only; omega, by dsimp only; rw [← hB]; simp only [List.append_assoc, List.cons_append, List.nil_append]; rfl⟩) (by simp only; omega) (by repeat (first | exact Sub.nil | refine Sub.cons rfl ?_)) (fun _ h => h)
                · simp only [hb88, decide_eq_true_eq, decide_eq_false_iff_not, Bool.and_eq_true, Bool.or_eq_true, Bool.and_eq_false_iff, Bool.or_eq_false_iff, Bool.not_eq_true', Bool.not_eq_false', ne_eq, Decidable.not_not] at hc88
                  have hsp : sepB i = 58 := if_neg (by omega)
                  refine rg_text ?_
                  refine x_val rfl rfl rfl (v_move rfl) ?_
                  refine x_val (v := .string ⟨(bs ++ ([58] : List UInt8)).toArray⟩) rfl rfl rfl (by rw [← str_app2 (bs) (([58] : List UInt8))]; exact v_sadd (s := ⟨(bs).toArray⟩) (u := ⟨(([58] : List UInt8)).toArray⟩) rfl rfl (by rw [mk_size, mk_size]; simp only [List.length_append, List.length_cons, List.length_nil]; omega)) ?_
                  refine x_val rfl rfl rfl (v_assign rfl) ?_
                  refine x_end ?_
                  refine t_norm ?_
                  refine rg_text ?_
                  refine x_val rfl rfl rfl (v_move rfl) ?_
                  refine x_val rfl rfl rfl (v_move rfl) ?_
                  refine x_val rfl rfl rfl (v_move rfl) ?_
                  refine x_val rfl rfl rfl (v_indexAddr Tryd.underlying25 sz9 (congrArg (fun A => some (Value.slice A ee.length c8)) hA3) rfl (by first | omega | (dsimp only; omega)) rfl) ?_
                  refine x_val rfl rfl rfl (v_load Tryd.underlying9 rfl rfl (at_ro (.head _) trivial (by rw [Nat.mul_one]; exact hc3))) ?_
                  refine x_callv rfl rfl rfl Tryd.func29 (by kernel_rfl) rfl (fun w1 hw1 => c_esc _ w1 hesc (by omega)) ?_
                  refine x_val (v := .string ⟨((bs ++ ([58] : List UInt8)) ++ escL (bl ee[i])).toArray⟩) rfl rfl rfl (by rw [← str_app2 ((bs ++ ([58] : List UInt8))) (escL (bl ee[i]))]; exact v_sadd (s := ⟨((bs ++ ([58] : List UInt8))).toArray⟩) (u := ⟨(escL (bl ee[i])).toArray⟩) rfl rfl (by rw [mk_size, mk_size]; simp only [List.length_append, List.length_cons, List.length_nil]; omega)) ?_
                  refine x_val rfl rfl rfl (v_assign rfl) ?_
                  refine x_end ?_
                  refine b_norm ?_
                  refine t_norm ?_
                  refine rg_text ?_
                  refine x_val rfl rfl rfl (v_move rfl) ?_
                  refine x_val rfl rfl rfl (v_addi rfl rfl rfl (by first | omega | (dsimp only; omega))) ?_
                  refine x_val rfl rfl rfl (v_assign rfl) ?_
                  refine x_end ?_
                  exact l_norm (i + 1, (bs ++ ([58] : List UInt8)) ++ escL (bl ee[i])) (⟨by dsimp only; omega, by dsimp only; rw [← hB, hsp]; simp only [List.append_assoc, List.cons_append, List.nil_append]; rfl⟩) (by simp only; omega) (by repeat (first | exact Sub.nil | refine Sub.cons rfl ?_)) (fun _ h => h)
              · simp only [hb84, decide_eq_false_iff_not] at hc84
                rw [drop_all (k := i) (by omega)] at hB
                refine w_exit ?_
                refine t_exit ?_
                refine t_exit ?_
                refine b_hit ?_
                refine b_norm ?_
                refine t_norm ?_
                refine rg_text ?_
                refine x_val rfl rfl rfl (v_move rfl) ?_
                refine x_val rfl rfl rfl (v_addi rfl rfl rfl (by first | omega | (dsimp only; omega))) ?_
                refine x_val rfl rfl rfl (v_assign rfl) ?_
                refine x_end ?_
                exact l_norm (j + 1, bs) (⟨by dsimp only; omega, hB, fun i h hi => by rcases Nat.lt_succ_iff_lt_or_eq.1 hi with h2 | rfl; (· exact hne i h h2); exact hem⟩) (by simp only; omega) (by repeat (first | exact Sub.nil | refine Sub.cons rfl ?_)) (fun _ h => h)
          · simp only [hb67, decide_eq_false_iff_not] at hc67
            rw [drop_all (k := j) (by omega)] at hB
            have hgk : goodW k l[k] := ⟨by unfold rightSg; rw [hcap, decide_eq_true ht3, show l[k].els.any List.isEmpty = false from List.any_eq_false.2 fun e he => by obtain ⟨i, hi, rfl⟩ := List.mem_iff_getElem.1 he; rw [hne i hi (by omega)]; exact Bool.false_ne_true]; rfl, hnu⟩
            refine w_exit ?_
            refine t_exit ?_
            refine t_exit ?_
            refine b_hit ?_
            refine t_norm ?_
            refine rg_text ?_
            refine x_val rfl rfl rfl (v_move rfl) ?_
            refine x_val (v := .string ⟨(bs ++ ([39] : List UInt8)).toArray⟩) rfl rfl rfl (by rw [← str_app2 (bs) (([39] : List UInt8))]; exact v_sadd (s := ⟨(bs).toArray⟩) (u := ⟨(([39] : List UInt8)).toArray⟩) rfl rfl (by rw [mk_size, mk_size]; simp only [List.length_append, List.length_cons, List.length_nil]; omega)) ?_
            refine x_val rfl rfl rfl (v_assign rfl) ?_
            refine x_end ?_
            refine b_norm ?_
            refine t_norm ?_
            refine rg_text ?_
            refine x_val rfl rfl rfl (v_move rfl) ?_
            refine x_val rfl rfl rfl (v_addi rfl rfl rfl (by first | omega | (dsimp only; omega))) ?_
            refine x_val rfl rfl rfl (v_assign rfl) ?_
            refine x_end ?_
            exact l_norm (k + 1, bs ++ ([39] : List UInt8)) (⟨by dsimp only; omega, by dsimp only; rw [← hB]; simp only [List.flatMap_nil, List.append_assoc, List.nil_append], fun j h hj => by rcases Nat.lt_succ_iff_lt_or_eq.1 hj with h2 | rfl; (· exact hgood j h h2); exact hgk⟩) (by simp only; omega) (by repeat (first | exact Sub.nil | refine Sub.cons rfl ?_)) (fun _ h => h)
    · simp only [hb19, decide_eq_false_iff_not] at hc19
      rw [drop_all (k := k) (by omega)] at hB
      have hbs : bs = wrT l := by rw [← hB]; exact (List.append_nil _).symm
      subst hbs
      refine w_exit ?_
      refine t_exit ?_
      refine t_exit ?_
      refine b_hit ?_
      refine t_norm ?_
      refine w_seq ?_
      refine rg_text ?_
      refine x_val rfl rfl rfl (v_move rfl) ?_
      refine x_val rfl rfl rfl (v_assign rfl) ?_
      refine x_val rfl rfl rfl (v_assign rfl) ?_
      refine x_end ?_
      refine t_norm ?_
      refine w_ret ?_
      refine ret2 rfl rfl rfl (fun w' hm' => ⟨?_, hm'.base (by simp)⟩)
      rw [wrR_ok hmany (fun j h => hgood j h (by omega))]

end Go.Proofs.YtbamklefagghcaaDoor

namespace Go.Proofs.YtbamklefagghcaaDoor
open Go.RowKit Go.PK
set_option linter.unusedVariables false
set_option linter.unusedSimpArgs false

structure LD (w : World) : Prop where
  tab : Lib.TabIs Tryd.prog w "internal/strconv.uint64pow10" .u64 Lib.pow10Tab
  cel : ∃ m, w.cell? ⟨0, 0, none⟩ = some (.int .i64 m)
theorem LD.later {w w' : World} (h : LD w) (hl : Later w w') : LD w' := by
  obtain ⟨h1, m, h2⟩ := h
  exact ⟨Joins.tab_stays (g := Tryd.prog.globalNamed "internal/strconv.uint64pow10" |>.getD 0) (by kernel_rfl) h1 hl (Nat.le_refl _), m, by rw [cell_keep (hl.block 0 (cell_lt (p := ⟨0, 0, none⟩) h2))]; exact h2⟩
theorem c_Itoa (n : Int) (w : World) (hn : in64 n) (hL : LD w) :
    Calls Tryd.prog 48 #[.int .i64 n] w fun e w' => e = .returned (.string (itoaS n)) ∧ Later w w' :=
  (Tryd.strconv_Itoa n hn.1 hn.2 w hL.tab).mono fun e w' ⟨h1, k, os, h2⟩ => ⟨h1, by rw [h2]; exact later_grow w k os⟩
theorem c_Split (s : ByteArray) (w : World) (hs : s.size ≤ 2000000000) (hL : LD w) :
    Calls Tryd.prog 47 #[.string s, .string colon] w fun e w' => ∃ v, e = .returned v ∧ Later w w' ∧ sliceRd tyStr (fun b => w.heap.size ≤ b) w' v (splitC s) := by
  obtain ⟨m, hm⟩ := hL.cel
  refine (Tryd.strings_Split s colon m w (by omega) hm (by decide)).mono fun e w' ⟨h1, h2⟩ => ⟨_, h1, ?_, ?_⟩
  · rw [h2]; exact later_alloc w _
  · have h2 : w' = w.alloc (.cells ((splitC s).map Value.string).toArray 9) := h2
    subst h2
    have hl := splitC_len s
    rw [← hl]
    have hg : (w.alloc (.cells ((splitC s).map Value.string).toArray 9)).heap[w.heap.size]? = some (.cells ((splitC s).map Value.string).toArray 9 (0, 0)) := alloc_at w _
    have hcn : (splitC s).length ≤ 9223372036854775807 := by rw [hl]; have := Lib.countB_le colon (by decide) s.size s (Nat.le_refl _); omega
    refine ⟨_, _, rfl, Nat.le_refl _, hcn, fun h => ⟨w.heap.size, 0, rfl, Nat.le_refl _, heap_lt hg, fun j hj => ⟨_, fun i hi => ?_, rfl, splitC_ok (by unfold okS; omega) _ (List.getElem_mem hj)⟩⟩⟩
    have hi : i = 0 := by simpa using hi
    subst hi
    rw [Nat.zero_add, Nat.add_zero, show tyStr.size = 1 from rfl, Nat.mul_one, cell_of_row _ w.heap.size _ _ 9 (0, 0) hg, List.getElem?_toArray]
    simp [hj]

end Go.Proofs.YtbamklefagghcaaDoor

namespace Go.Proofs.YtbamklefagghcaaDoor
open Go.RowKit Go.PK
set_option linter.unusedVariables false
set_option linter.unusedSimpArgs false
set_option maxRecDepth 100000 in
theorem c_number (n : Int) (w : World) (hn : in64 n) (hL : LD w) :
    Calls Tryd.prog 32 #[.int .i64 n] w fun e w' => e = .returned (.string (itoaS n)) ∧ Later w w' := by
  refine enter (vs := [.int .i64 n]) Tryd.func32 rfl Tryd.ntmps32 rfl ?_
  refine w_seq ?_
  refine rg_text ?_
  refine x_val rfl rfl rfl (v_assign rfl) ?_
  refine x_end ?_
  refine t_norm ?_
  refine w_seq ?_
  refine rg_text ?_
  refine x_val rfl rfl rfl (v_move rfl) ?_
  refine x_callv rfl rfl rfl Tryd.func48 (by kernel_rfl) rfl (fun w1 hw1 => c_Itoa n w1 hn (hL.later (hw1.base (by simp)))) ?_
  refine x_val rfl rfl rfl (v_assign rfl) ?_
  refine x_end ?_
  refine t_norm ?_
  refine w_ret ?_
  refine ret1 rfl rfl (fun w' hm => ⟨?_, hm.base (by simp)⟩)
  rfl
set_option maxRecDepth 100000 in
theorem c_article (s n : Int) (w : World) (hs : in64 s) (hn : in64 n) (hL : LD w) :
    Calls Tryd.prog 33 #[.agg #[.int .i64 s, .int .i64 n]] w fun e w' => e = .returned (.string (artS s n)) ∧ Later w w' := by
  have z1 := itoaS_size hs
  have z2 := itoaS_size hn
  refine enter (vs := [.agg #[.int .i64 s, .int .i64 n]]) Tryd.func33 rfl Tryd.ntmps33 rfl ?_
  refine w_seq ?_
  refine rg_text ?_
  refine x_box rfl rfl rfl rfl ?_
  intro p1
  refine x_val rfl rfl rfl (v_assign rfl) ?_
  refine x_end ?_
  refine t_norm ?_
  refine w_seq ?_
  refine rg_draw 10 [(true, 0), (true, 1), (true, 2), (true, 3), (true, 4), (true, 5), (true, 6), (true, 7), (true, 8), (true, 9)] (by kernel_rfl) (by kernel_rfl) ?_
  refine x_val rfl rfl rfl (v_fieldAddr (off' := 0) Tryd.underlying43 rfl sz3 (by decide) rfl rfl) ?_
  refine x_val rfl rfl rfl (v_load Tryd.underlying3 rfl rfl (at_ownL (vs := [Value.int .i64 s, .int .i64 n]) (.head _) rfl)) ?_
  refine x_callv rfl rfl rfl Tryd.func32 (by kernel_rfl) rfl (fun w1 hw1 => c_number s w1 hs (hL.later (hw1.base (by simp)))) ?_
  refine x_val rfl rfl rfl (v_sadd rfl rfl (by show (itoaS s).size + 1 ≤ _; omega)) ?_
  refine x_val rfl rfl rfl (v_fieldAddr (off' := 1) Tryd.underlying43 rfl sz3 (by decide) rfl rfl) ?_
  refine x_val rfl rfl rfl (v_load Tryd.underlying3 rfl rfl (at_ownL (vs := [Value.int .i64 s, .int .i64 n]) (.head _) rfl)) ?_
  refine x_callv rfl rfl rfl Tryd.func32 (by kernel_rfl) rfl (fun w1 hw1 => c_number n w1 hn (hL.later (hw1.base (by simp)))) ?_
  refine x_val rfl rfl rfl (v_sadd rfl rfl (by rw [ByteArray.size_append]; show (itoaS s).size + 1 + (itoaS n).size ≤ _; omega)) ?_
  refine x_val rfl rfl rfl (v_sadd rfl rfl (by rw [ByteArray.size_append, ByteArray.size_append]; show (itoaS s).size + 1 + (itoaS n).size + 4 ≤ _; omega)) ?_
  refine x_val rfl rfl rfl (v_assign rfl) ?_
  refine x_end ?_
  refine t_norm ?_
  refine w_ret ?_
  refine ret1 rfl rfl (fun w' hm => ⟨?_, hm.base (by simp)⟩)
  rfl
set_option maxRecDepth 100000 in
theorem c_wi1 (n a b : Int) (p q : Nat) (w : World) (hp : w.cell? ⟨p, 0, none⟩ = some (.int .i64 a)) (hq : w.cell? ⟨q, 0, none⟩ = some (.int .i64 b)) :
    Calls Tryd.prog 54 #[.int .i64 n, .pointer (some ⟨p, 0, none⟩), .pointer (some ⟨q, 0, none⟩)] w fun e w' => e = .returned (.bool (decide (n < a) || decide (n > b))) ∧ Later w w' := by
  refine enter (vs := [.int .i64 n, .pointer (some ⟨p, 0, none⟩), .pointer (some ⟨q, 0, none⟩)]) Tryd.func54 rfl Tryd.ntmps54 rfl ?_
  refine w_seq ?_
  refine rg_text ?_
  refine x_val rfl rfl rfl (v_assign rfl) ?_
  refine x_end ?_
  refine t_norm ?_
  refine w_seq ?_
  refine rg_text ?_
  refine x_val rfl rfl rfl (v_move rfl) ?_
  refine x_val rfl rfl rfl (v_load Tryd.underlying3 rfl rfl (at_ro (.head _) trivial hp)) ?_
  refine x_bool rfl rfl rfl (v_lss rfl rfl) ?_
  intro b7 hb7
  refine x_val rfl rfl rfl (v_move rfl) ?_
  refine x_if [] rfl rfl rfl rfl rfl (fun hg => by obtain ⟨hg0, _⟩ := hg; subst hg0; (try simp only [List.cons_append, List.nil_append, gvl_nil, gvl_t, gvl_f]); exact v_move rfl) ?_
  refine x_if [] rfl rfl rfl rfl rfl (fun hg => by obtain ⟨hg0, _⟩ := hg; subst hg0; (try simp only [List.cons_append, List.nil_append, gvl_nil, gvl_t, gvl_f]); exact v_load Tryd.underlying3 rfl rfl (at_ro (.head _) trivial hq)) ?_
  refine x_ifb [] rfl rfl rfl rfl rfl (fun hg => by obtain ⟨hg0, _⟩ := hg; subst hg0; (try simp only [List.cons_append, List.nil_append, gvl_nil, gvl_t, gvl_f]); exact v_gtr rfl rfl) ?_
  intro b11 hb11
  refine x_bool rfl rfl rfl (v_or rfl rfl) ?_
  intro b12 hb12
  refine x_val rfl rfl rfl (v_assign rfl) ?_
  refine x_end ?_
  refine t_norm ?_
  refine w_ret ?_
  refine ret1 rfl rfl (fun w' hm => ⟨?_, hm.base (by simp)⟩)
  rw [hb12, hb11, hb7]
theorem calls_cl2 {P : Program} {f : FuncId} {v p q : Value} {w : World} {Q : Ending → World → Prop} (h : Calls P f #[v, p, q] w Q) : Calls P f (#[v] ++ #[p, q]) w Q := by simpa using h
set_option maxRecDepth 100000 in
theorem c_IFI {v : Value} {xs : List Int} {D : Nat → Prop} (a b : Int) (p q : Nat) (w : World) (hxs : sliceRd tyI D w v xs) (hp : w.cell? ⟨p, 0, none⟩ = some (.int .i64 a)) (hq : w.cell? ⟨q, 0, none⟩ = some (.int .i64 b)) :
    Calls Tryd.prog 57 #[v, .func (.func 54) #[] #[.pointer (some ⟨p, 0, none⟩), .pointer (some ⟨q, 0, none⟩)]] w fun e w' => e = .returned (.int .i64 (fidx (fun n => decide (n < a) || decide (n > b)) xs)) ∧ Later w w' := by
  obtain ⟨A, cp, rfl, hlc, hmx, hA⟩ := id hxs
  refine enter (vs := [.slice A xs.length cp, .func (.func 54) #[] #[.pointer (some ⟨p, 0, none⟩), .pointer (some ⟨q, 0, none⟩)]]) Tryd.func57 rfl Tryd.ntmps57 rfl ?_
  refine w_seq ?_
  refine rg_text ?_
  refine x_val rfl rfl rfl (v_assign rfl) ?_
  refine x_end ?_
  refine t_norm ?_
  refine w_seq ?_
  refine w_seq ?_
  refine rg_text ?_
  refine x_val rfl rfl rfl (v_move rfl) ?_
  refine x_val rfl rfl rfl (v_len_slice Tryd.underlying96 rfl) ?_
  refine x_val rfl rfl rfl (v_move rfl) ?_
  refine x_end ?_
  refine t_norm ?_
  refine w_block ?_
  refine w_loop (σ := Nat) (fun k => k ≤ xs.length ∧ ∀ j (h : j < xs.length), j < k → (fun n => decide (n < a) || decide (n > b)) xs[j] = false) (fun k => [(0, .slice A xs.length cp), (1, .func (.func 54) #[] #[.pointer (some ⟨p, 0, none⟩), .pointer (some ⟨q, 0, none⟩)]), (7, Value.int .i64 xs.length), (8, Value.int .i64 (k : Nat))]) (fun k => []) (fun k => [(w, fun _ => True)]) (fun k => xs.length - k) (0) (⟨Nat.zero_le _, by intros; omega⟩) (l_start (by repeat (first | exact Sub.nil | refine Sub.cons rfl ?_)) (fun _ h => h)) ?_
  rintro k ⟨hk, hno⟩
  refine w_state ([(0, .slice A xs.length cp), (1, .func (.func 54) #[] #[.pointer (some ⟨p, 0, none⟩), .pointer (some ⟨q, 0, none⟩)]), (7, Value.int .i64 xs.length), (8, Value.int .i64 (k : Nat))]) ([]) ([(w, fun _ => True)]) ?_
  refine w_seq ?_
  refine rg_text ?_
  refine x_bool rfl rfl rfl (v_lss rfl rfl) ?_
  intro b9 hb9
  refine x_end ?_
  refine t_norm ?_
  refine w_seq ?_
  refine w_cond rfl (fun hc9 => ?_) (fun hc9 => ?_)
  · simp only [hb9, decide_eq_true_eq, decide_eq_false_iff_not, Bool.and_eq_true, Bool.or_eq_true, Bool.and_eq_false_iff, Bool.or_eq_false_iff, Bool.not_eq_true', Bool.not_eq_false', ne_eq, Decidable.not_not] at hc9
    have hkl : k < xs.length := by omega
    obtain ⟨b0, o0, hA0, hD0, hc0, _⟩ := int_at hxs hkl
    refine w_skip ?_
    refine t_norm ?_
    refine w_seq ?_
    refine w_block ?_
    refine w_seq ?_
    refine rg_text ?_
    refine x_val rfl rfl rfl (v_move rfl) ?_
    refine x_val rfl rfl rfl (v_assign rfl) ?_
    refine x_end ?_
    refine t_norm ?_
    refine w_seq ?_
    refine rg_text ?_
    refine x_val rfl rfl rfl (v_move rfl) ?_
    refine x_val rfl rfl rfl (v_move rfl) ?_
    refine x_val rfl rfl rfl (v_move rfl) ?_
    refine x_val rfl rfl rfl (v_indexAddr Tryd.underlying96 sz3 (congrArg (fun A => some (Value.slice A xs.length cp)) hA0) rfl (by first | omega | (dsimp only; omega)) rfl) ?_
    refine x_val rfl rfl rfl (v_load Tryd.underlying3 rfl rfl (at_ro (.head _) trivial (by rw [Nat.mul_one]; exact hc0))) ?_
    refine x_clb rfl rfl rfl rfl Tryd.func54 (by kernel_rfl) rfl (fun w1 hw1 => calls_cl2 (c_wi1 xs[k] a b p q w1 (by rw [cell_keep ((hw1.base (by simp)).block _ (cell_lt hp))]; exact hp) (by rw [cell_keep ((hw1.base (by simp)).block _ (cell_lt hq))]; exact hq))) ?_
    intro b16 hb16
    refine x_end ?_
    refine t_norm ?_
    refine w_cond rfl (fun hc16 => ?_) (fun hc16 => ?_)
    · have hb : (fun n => decide (n < a) || decide (n > b)) xs[k] = true := hb16.symm.trans hc16
      refine w_seq ?_
      refine rg_text ?_
      refine x_val rfl rfl rfl (v_move rfl) ?_
      refine x_val rfl rfl rfl (v_assign rfl) ?_
      refine x_end ?_
      refine t_norm ?_
      refine w_ret ?_
      refine b_ret ?_
      refine t_ret ?_
      refine t_ret ?_
      refine b_ret ?_
      refine t_ret ?_
      refine ret1 rfl rfl (fun w' hm => ⟨?_, hm.base (by simp)⟩)
      rw [fidx_at hkl hb hno]
    · have hb : (fun n => decide (n < a) || decide (n > b)) xs[k] = false := hb16.symm.trans hc16
      refine w_skip ?_
      refine b_norm ?_
      refine t_norm ?_
      refine rg_text ?_
      refine x_val rfl rfl rfl (v_addi rfl rfl rfl (by first | omega | (dsimp only; omega))) ?_
      refine x_val rfl rfl rfl (v_move rfl) ?_
      refine x_end ?_
      exact l_norm (k + 1) ⟨by omega, fun j h hjk => by rcases Nat.lt_succ_iff_lt_or_eq.1 hjk with h2 | rfl; (· exact hno j h h2); exact hb⟩ (by omega) (by repeat (first | exact Sub.nil | refine Sub.cons rfl ?_)) (fun _ h => h)
  · simp only [hb9, decide_eq_true_eq, decide_eq_false_iff_not, Bool.and_eq_true, Bool.or_eq_true, Bool.and_eq_false_iff, Bool.or_eq_false_iff, Bool.not_eq_true', Bool.not_eq_false', ne_eq, Decidable.not_not] at hc9
    refine w_exit ?_
    refine t_exit ?_
    refine t_exit ?_
    refine b_hit ?_
    refine t_norm ?_
    refine w_seq ?_
    refine rg_text ?_
    refine x_val rfl rfl rfl (v_assign rfl) ?_
    refine x_end ?_
    refine t_norm ?_
    refine w_ret ?_
    refine ret1 rfl rfl (fun w' hm => ⟨?_, hm.base (by simp)⟩)
    rw [fidx_none (fun j h => hno j h (by omega))]
set_option maxRecDepth 100000 in
theorem c_CFI {v : Value} {xs : List Int} {D : Nat → Prop} (a b : Int) (p q : Nat) (w : World) (hxs : sliceRd tyI D w v xs) (hp : w.cell? ⟨p, 0, none⟩ = some (.int .i64 a)) (hq : w.cell? ⟨q, 0, none⟩ = some (.int .i64 b)) :
    Calls Tryd.prog 53 #[v, .func (.func 54) #[] #[.pointer (some ⟨p, 0, none⟩), .pointer (some ⟨q, 0, none⟩)]] w fun e w' => e = .returned (.bool (xs.any (fun n => decide (n < a) || decide (n > b)))) ∧ Later w w' := by
  refine enter (vs := [v, .func (.func 54) #[] #[.pointer (some ⟨p, 0, none⟩), .pointer (some ⟨q, 0, none⟩)]]) Tryd.func53 rfl Tryd.ntmps53 rfl ?_
  refine w_seq ?_
  refine rg_text ?_
  refine x_val rfl rfl rfl (v_assign rfl) ?_
  refine x_end ?_
  refine t_norm ?_
  refine w_seq ?_
  refine rg_text ?_
  refine x_val rfl rfl rfl (v_move rfl) ?_
  refine x_val rfl rfl rfl (v_move rfl) ?_
  refine x_callv rfl rfl rfl Tryd.func57 (by kernel_rfl) rfl (fun w1 hw1 => c_IFI a b p q w1 (hxs.keep (Kept.later (hw1.base (by simp)))) (by rw [cell_keep ((hw1.base (by simp)).block _ (cell_lt hp))]; exact hp) (by rw [cell_keep ((hw1.base (by simp)).block _ (cell_lt hq))]; exact hq)) ?_
  refine x_bool rfl rfl rfl (v_geq rfl rfl) ?_
  intro b8 hb8
  refine x_val rfl rfl rfl (v_assign rfl) ?_
  refine x_end ?_
  refine t_norm ?_
  refine w_ret ?_
  refine ret1 rfl rfl (fun w' hm => ⟨?_, hm.base (by simp)⟩)
  rw [hb8, Bool.eq_iff_iff.2 (decide_eq_true_iff.trans (fidx_nn _ xs))]
set_option maxRecDepth 100000 in
theorem c_within {v : Value} {xs : List Int} {D : Nat → Prop} (a b : Int) (w : World) (hxs : sliceRd tyI D w v xs) :
    Calls Tryd.prog 46 #[.int .i64 a, .int .i64 b, v] w fun e w' => e = .returned (.bool (wi a b xs)) ∧ Later w w' := by
  refine enter (vs := [.int .i64 a, .int .i64 b, v]) Tryd.func46 rfl Tryd.ntmps46 rfl ?_
  refine w_seq ?_
  refine rg_text ?_
  refine x_box rfl rfl rfl rfl ?_
  intro p3
  refine x_box rfl rfl rfl rfl ?_
  intro p4
  refine x_val rfl rfl rfl (v_assign rfl) ?_
  refine x_end ?_
  refine t_norm ?_
  refine w_seq ?_
  refine rg_text ?_
  refine x_val rfl rfl rfl (v_move rfl) ?_
  refine x_val rfl rfl rfl (v_func rfl) ?_
  refine x_callb rfl rfl rfl Tryd.func53 (by kernel_rfl) rfl (fun w1 hw1 => c_CFI a b p3 p4 w1 (hxs.keep (Kept.later (hw1.base (by simp)))) (by rw [cell_of_row w1 p3 _ _ 3 (0, 0) (hw1.own_at (p3, _) (.tail _ (.head _)))]; rfl) (by rw [cell_of_row w1 p4 _ _ 3 (0, 0) (hw1.own_at (p4, _) (.head _))]; rfl)) ?_
  intro b9 hb9
  refine x_bool rfl rfl rfl (v_not rfl) ?_
  intro b10 hb10
  refine x_val rfl rfl rfl (v_assign rfl) ?_
  refine x_end ?_
  refine t_norm ?_
  refine w_ret ?_
  refine ret1 rfl rfl (fun w' hm => ⟨?_, hm.base (by simp)⟩)
  rw [hb10, hb9]; rfl
set_option maxRecDepth 100000 in
theorem c_wrA (o : Ord) (w : World) (hok : o.ok) (h1 : wi 1 999999999 [o.id, o.fund] = false) :
    Calls Tryd.prog 30 #[.agg o.cells.toArray] w fun e w' => e = .returned (.bool (writB o)) ∧ Later w w' := by
  have hok1 : in64 o.id ∧ in64 o.fund := ⟨hok.1, hok.2.1⟩
  have hok2 : in64 o.src ∧ in64 o.num ∧ in64 o.price := ⟨hok.2.2.1, hok.2.2.2.1, hok.2.2.2.2.2⟩
  have hok3 : in64 o.copies := hok.2.2.2.2.1
  refine enter (vs := [.agg o.cells.toArray]) Tryd.func30 rfl Tryd.ntmps30 rfl ?_
  refine w_seq ?_
  refine rg_text ?_
  refine x_box rfl rfl rfl rfl ?_
  intro p1
  refine x_val rfl rfl rfl (v_assign rfl) ?_
  refine x_end ?_
  refine t_norm ?_
  refine w_seq ?_
  refine rg_text ?_
  refine x_val rfl rfl rfl (v_fieldAddr (off' := 0) Tryd.underlying45 rfl sz3 (by decide) rfl rfl) ?_
  refine x_val rfl rfl rfl (v_load Tryd.underlying3 rfl rfl (at_ownL (vs := o.cells) (by repeat (first | exact List.Mem.head _ | apply List.Mem.tail)) rfl)) ?_
  refine x_val rfl rfl rfl (v_fieldAddr (off' := 1) Tryd.underlying45 rfl sz3 (by decide) rfl rfl) ?_
  refine x_val rfl rfl rfl (v_load Tryd.underlying3 rfl rfl (at_ownL (vs := o.cells) (by repeat (first | exact List.Mem.head _ | apply List.Mem.tail)) rfl)) ?_
  refine x_buildSliceL (cs := [Value.int .i64 o.id, .int .i64 o.fund]) rfl rfl rfl Tryd.underlying96 sz3 zr3 rfl rfl rfl ?_
  intro p7
  refine x_callb rfl rfl rfl Tryd.func46 (by kernel_rfl) rfl (fun w1 hw1 => c_within 1 999999999 w1 (rowI_rd (D := fun _ => True) (e := 3) (r := some (p7, [Value.int .i64 o.id, Value.int .i64 o.fund], 2)) (n := 2) (ds := [o.id, o.fund]) (rowOK_lit rfl (by decide)) rfl (by simpa using hok1) hw1 (fun q hq => by rw [List.mem_singleton.1 hq]; exact .head _) (fun _ _ => trivial))) ?_
  intro b8 hb8
  obtain rfl : b8 = false := hb8.trans h1
  refine x_val rfl rfl rfl (v_move rfl) ?_
  refine x_no rfl rfl rfl rfl rfl ?_
  refine x_no rfl rfl rfl rfl rfl ?_
  refine x_no rfl rfl rfl rfl rfl ?_
  refine x_no rfl rfl rfl rfl rfl ?_
  refine x_no rfl rfl rfl rfl rfl ?_
  refine x_no rfl rfl rfl rfl rfl ?_
  refine x_no rfl rfl rfl rfl rfl ?_
  refine x_no rfl rfl rfl rfl rfl ?_
  refine x_no rfl rfl rfl rfl rfl ?_
  refine x_no rfl rfl rfl rfl rfl ?_
  refine x_val (v := .bool false) rfl rfl rfl (v_pick (b := false) rfl rfl) ?_
  refine x_val rfl rfl rfl (v_move rfl) ?_
  refine x_no rfl rfl rfl rfl rfl ?_
  refine x_no rfl rfl rfl rfl rfl ?_
  refine x_no rfl rfl rfl rfl rfl ?_
  refine x_no rfl rfl rfl rfl rfl ?_
  refine x_val (v := .bool false) rfl rfl rfl (v_pick (b := false) rfl rfl) ?_
  refine x_val rfl rfl rfl (v_assign rfl) ?_
  refine x_end ?_
  refine t_norm ?_
  refine w_ret ?_
  refine ret1 rfl rfl (fun w' hm => ⟨?_, hm.base (by simp)⟩)
  unfold writB; rw [h1]; rfl
set_option maxRecDepth 100000 in
theorem c_wrB (o : Ord) (w : World) (hok : o.ok) (h1 : wi 1 999999999 [o.id, o.fund] = true) (h2 : wi 0 999999999 [o.src, o.num, o.price] = false) :
    Calls Tryd.prog 30 #[.agg o.cells.toArray] w fun e w' => e = .returned (.bool (writB o)) ∧ Later w w' := by
  have hok1 : in64 o.id ∧ in64 o.fund := ⟨hok.1, hok.2.1⟩
  have hok2 : in64 o.src ∧ in64 o.num ∧ in64 o.price := ⟨hok.2.2.1, hok.2.2.2.1, hok.2.2.2.2.2⟩
  have hok3 : in64 o.copies := hok.2.2.2.2.1
  refine enter (vs := [.agg o.cells.toArray]) Tryd.func30 rfl Tryd.ntmps30 rfl ?_
  refine w_seq ?_
  refine rg_text ?_
  refine x_box rfl rfl rfl rfl ?_
  intro p1
  refine x_val rfl rfl rfl (v_assign rfl) ?_
  refine x_end ?_
  refine t_norm ?_
  refine w_seq ?_
  refine rg_text ?_
  refine x_val rfl rfl rfl (v_fieldAddr (off' := 0) Tryd.underlying45 rfl sz3 (by decide) rfl rfl) ?_
  refine x_val rfl rfl rfl (v_load Tryd.underlying3 rfl rfl (at_ownL (vs := o.cells) (by repeat (first | exact List.Mem.head _ | apply List.Mem.tail)) rfl)) ?_
  refine x_val rfl rfl rfl (v_fieldAddr (off' := 1) Tryd.underlying45 rfl sz3 (by decide) rfl rfl) ?_
  refine x_val rfl rfl rfl (v_load Tryd.underlying3 rfl rfl (at_ownL (vs := o.cells) (by repeat (first | exact List.Mem.head _ | apply List.Mem.tail)) rfl)) ?_
  refine x_buildSliceL (cs := [Value.int .i64 o.id, .int .i64 o.fund]) rfl rfl rfl Tryd.underlying96 sz3 zr3 rfl rfl rfl ?_
  intro p7
  refine x_callb rfl rfl rfl Tryd.func46 (by kernel_rfl) rfl (fun w1 hw1 => c_within 1 999999999 w1 (rowI_rd (D := fun _ => True) (e := 3) (r := some (p7, [Value.int .i64 o.id, Value.int .i64 o.fund], 2)) (n := 2) (ds := [o.id, o.fund]) (rowOK_lit rfl (by decide)) rfl (by simpa using hok1) hw1 (fun q hq => by rw [List.mem_singleton.1 hq]; exact .head _) (fun _ _ => trivial))) ?_
  intro b8 hb8
  obtain rfl : b8 = true := hb8.trans h1
  refine x_val rfl rfl rfl (v_move rfl) ?_
  refine x_if [] rfl rfl rfl rfl rfl (fun hg => by obtain ⟨hg0, _⟩ := hg; (try simp only [List.cons_append, List.nil_append, gvl_nil, gvl_t, gvl_f]); exact v_fieldAddr (off' := 2) Tryd.underlying45 rfl sz43 (by decide) rfl rfl) ?_
  refine x_if [] rfl rfl rfl rfl rfl (fun hg => by obtain ⟨hg0, _⟩ := hg; (try simp only [List.cons_append, List.nil_append, gvl_nil, gvl_t, gvl_f]); exact v_fieldAddr (off' := 2) Tryd.underlying43 rfl sz3 (by decide) rfl rfl) ?_
  refine x_if [] rfl rfl rfl rfl rfl (fun hg => by obtain ⟨hg0, _⟩ := hg; (try simp only [List.cons_append, List.nil_append, gvl_nil, gvl_t, gvl_f]); exact v_load Tryd.underlying3 rfl rfl (at_ownL (vs := o.cells) (by repeat (first | exact List.Mem.head _ | apply List.Mem.tail)) rfl)) ?_
  refine x_if [] rfl rfl rfl rfl rfl (fun hg => by obtain ⟨hg0, _⟩ := hg; (try simp only [List.cons_append, List.nil_append, gvl_nil, gvl_t, gvl_f]); exact v_fieldAddr (off' := 2) Tryd.underlying45 rfl sz43 (by decide) rfl rfl) ?_
  refine x_if [] rfl rfl rfl rfl rfl (fun hg => by obtain ⟨hg0, _⟩ := hg; (try simp only [List.cons_append, List.nil_append, gvl_nil, gvl_t, gvl_f]); exact v_fieldAddr (off' := 3) Tryd.underlying43 rfl sz3 (by decide) rfl rfl) ?_
  refine x_if [] rfl rfl rfl rfl rfl (fun hg => by obtain ⟨hg0, _⟩ := hg; (try simp only [List.cons_append, List.nil_append, gvl_nil, gvl_t, gvl_f]); exact v_load Tryd.underlying3 rfl rfl (at_ownL (vs := o.cells) (by repeat (first | exact List.Mem.head _ | apply List.Mem.tail)) rfl)) ?_
  refine x_if [] rfl rfl rfl rfl rfl (fun hg => by obtain ⟨hg0, _⟩ := hg; (try simp only [List.cons_append, List.nil_append, gvl_nil, gvl_t, gvl_f]); exact v_fieldAddr (off' := 5) Tryd.underlying45 rfl sz3 (by decide) rfl rfl) ?_
  refine x_if [] rfl rfl rfl rfl rfl (fun hg => by obtain ⟨hg0, _⟩ := hg; (try simp only [List.cons_append, List.nil_append, gvl_nil, gvl_t, gvl_f]); exact v_load Tryd.underlying3 rfl rfl (at_ownL (vs := o.cells) (by repeat (first | exact List.Mem.head _ | apply List.Mem.tail)) rfl)) ?_
  refine x_buildSlice_g (cs := [Value.int .i64 o.src, .int .i64 o.num, .int .i64 o.price]) rfl rfl rfl rfl rfl Tryd.underlying96 sz3 zr3 rfl rfl rfl ?_
  intro p18
  refine x_call_ifb [] rfl rfl rfl rfl rfl Tryd.func46 (by kernel_rfl) (fun hg => by obtain ⟨hg0, _⟩ := hg; (try simp only [List.cons_append, List.nil_append, gvl_nil, gvl_t, gvl_f]); refine ⟨_, rfl, ?_⟩; exact fun w1 hw1 => c_within 0 999999999 w1 (rowI_rd (D := fun _ => True) (e := 3) (r := some (p18, [Value.int .i64 o.src, Value.int .i64 o.num, Value.int .i64 o.price], 3)) (n := 3) (ds := [o.src, o.num, o.price]) (rowOK_lit rfl (by decide)) rfl (by simpa using hok2) hw1 (fun q hq => by rw [List.mem_singleton.1 hq]; exact .head _) (fun _ _ => trivial))) ?_
  intro b19 hb19
  obtain rfl : b19 = false := hb19.trans h2
  refine x_val (v := .bool false) rfl rfl rfl (v_pick (b := true) rfl rfl) ?_
  refine x_val rfl rfl rfl (v_move rfl) ?_
  refine x_no rfl rfl rfl rfl rfl ?_
  refine x_no rfl rfl rfl rfl rfl ?_
  refine x_no rfl rfl rfl rfl rfl ?_
  refine x_no rfl rfl rfl rfl rfl ?_
  refine x_val (v := .bool false) rfl rfl rfl (v_pick (b := false) rfl rfl) ?_
  refine x_val rfl rfl rfl (v_assign rfl) ?_
  refine x_end ?_
  refine t_norm ?_
  refine w_ret ?_
  refine ret1 rfl rfl (fun w' hm => ⟨?_, hm.base (by simp)⟩)
  unfold writB; rw [h1, h2]; rfl
set_option maxRecDepth 100000 in
theorem c_wrC (o : Ord) (w : World) (hok : o.ok) (h1 : wi 1 999999999 [o.id, o.fund] = true) (h2 : wi 0 999999999 [o.src, o.num, o.price] = true) :
    Calls Tryd.prog 30 #[.agg o.cells.toArray] w fun e w' => e = .returned (.bool (writB o)) ∧ Later w w' := by
  have hok1 : in64 o.id ∧ in64 o.fund := ⟨hok.1, hok.2.1⟩
  have hok2 : in64 o.src ∧ in64 o.num ∧ in64 o.price := ⟨hok.2.2.1, hok.2.2.2.1, hok.2.2.2.2.2⟩
  have hok3 : in64 o.copies := hok.2.2.2.2.1
  refine enter (vs := [.agg o.cells.toArray]) Tryd.func30 rfl Tryd.ntmps30 rfl ?_
  refine w_seq ?_
  refine rg_text ?_
  refine x_box rfl rfl rfl rfl ?_
  intro p1
  refine x_val rfl rfl rfl (v_assign rfl) ?_
  refine x_end ?_
  refine t_norm ?_
  refine w_seq ?_
  refine rg_text ?_
  refine x_val rfl rfl rfl (v_fieldAddr (off' := 0) Tryd.underlying45 rfl sz3 (by decide) rfl rfl) ?_
  refine x_val rfl rfl rfl (v_load Tryd.underlying3 rfl rfl (at_ownL (vs := o.cells) (by repeat (first | exact List.Mem.head _ | apply List.Mem.tail)) rfl)) ?_
  refine x_val rfl rfl rfl (v_fieldAddr (off' := 1) Tryd.underlying45 rfl sz3 (by decide) rfl rfl) ?_
  refine x_val rfl rfl rfl (v_load Tryd.underlying3 rfl rfl (at_ownL (vs := o.cells) (by repeat (first | exact List.Mem.head _ | apply List.Mem.tail)) rfl)) ?_
  refine x_buildSliceL (cs := [Value.int .i64 o.id, .int .i64 o.fund]) rfl rfl rfl Tryd.underlying96 sz3 zr3 rfl rfl rfl ?_
  intro p7
  refine x_callb rfl rfl rfl Tryd.func46 (by kernel_rfl) rfl (fun w1 hw1 => c_within 1 999999999 w1 (rowI_rd (D := fun _ => True) (e := 3) (r := some (p7, [Value.int .i64 o.id, Value.int .i64 o.fund], 2)) (n := 2) (ds := [o.id, o.fund]) (rowOK_lit rfl (by decide)) rfl (by simpa using hok1) hw1 (fun q hq => by rw [List.mem_singleton.1 hq]; exact .head _) (fun _ _ => trivial))) ?_
  intro b8 hb8
  obtain rfl : b8 = true := hb8.trans h1
  refine x_val rfl rfl rfl (v_move rfl) ?_
  refine x_if [] rfl rfl rfl rfl rfl (fun hg => by obtain ⟨hg0, _⟩ := hg; (try simp only [List.cons_append, List.nil_append, gvl_nil, gvl_t, gvl_f]); exact v_fieldAddr (off' := 2) Tryd.underlying45 rfl sz43 (by decide) rfl rfl) ?_
  refine x_if [] rfl rfl rfl rfl rfl (fun hg => by obtain ⟨hg0, _⟩ := hg; (try simp only [List.cons_append, List.nil_append, gvl_nil, gvl_t, gvl_f]); exact v_fieldAddr (off' := 2) Tryd.underlying43 rfl sz3 (by decide) rfl rfl) ?_
  refine x_if [] rfl rfl rfl rfl rfl (fun hg => by obtain ⟨hg0, _⟩ := hg; (try simp only [List.cons_append, List.nil_append, gvl_nil, gvl_t, gvl_f]); exact v_load Tryd.underlying3 rfl rfl (at_ownL (vs := o.cells) (by repeat (first | exact List.Mem.head _ | apply List.Mem.tail)) rfl)) ?_
  refine x_if [] rfl rfl rfl rfl rfl (fun hg => by obtain ⟨hg0, _⟩ := hg; (try simp only [List.cons_append, List.nil_append, gvl_nil, gvl_t, gvl_f]); exact v_fieldAddr (off' := 2) Tryd.underlying45 rfl sz43 (by decide) rfl rfl) ?_
  refine x_if [] rfl rfl rfl rfl rfl (fun hg => by obtain ⟨hg0, _⟩ := hg; (try simp only [List.cons_append, List.nil_append, gvl_nil, gvl_t, gvl_f]); exact v_fieldAddr (off' := 3) Tryd.underlying43 rfl sz3 (by decide) rfl rfl) ?_
  refine x_if [] rfl rfl rfl rfl rfl (fun hg => by obtain ⟨hg0, _⟩ := hg; (try simp only [List.cons_append, List.nil_append, gvl_nil, gvl_t, gvl_f]); exact v_load Tryd.underlying3 rfl rfl (at_ownL (vs := o.cells) (by repeat (first | exact List.Mem.head _ | apply List.Mem.tail)) rfl)) ?_
  refine x_if [] rfl rfl rfl rfl rfl (fun hg => by obtain ⟨hg0, _⟩ := hg; (try simp only [List.cons_append, List.nil_append, gvl_nil, gvl_t, gvl_f]); exact v_fieldAddr (off' := 5) Tryd.underlying45 rfl sz3 (by decide) rfl rfl) ?_
  refine x_if [] rfl rfl rfl rfl rfl (fun hg => by obtain ⟨hg0, _⟩ := hg; (try simp only [List.cons_append, List.nil_append, gvl_nil, gvl_t, gvl_f]); exact v_load Tryd.underlying3 rfl rfl (at_ownL (vs := o.cells) (by repeat (first | exact List.Mem.head _ | apply List.Mem.tail)) rfl)) ?_
  refine x_buildSlice_g (cs := [Value.int .i64 o.src, .int .i64 o.num, .int .i64 o.price]) rfl rfl rfl rfl rfl Tryd.underlying96 sz3 zr3 rfl rfl rfl ?_
  intro p18
  refine x_call_ifb [] rfl rfl rfl rfl rfl Tryd.func46 (by kernel_rfl) (fun hg => by obtain ⟨hg0, _⟩ := hg; (try simp only [List.cons_append, List.nil_append, gvl_nil, gvl_t, gvl_f]); refine ⟨_, rfl, ?_⟩; exact fun w1 hw1 => c_within 0 999999999 w1 (rowI_rd (D := fun _ => True) (e := 3) (r := some (p18, [Value.int .i64 o.src, Value.int .i64 o.num, Value.int .i64 o.price], 3)) (n := 3) (ds := [o.src, o.num, o.price]) (rowOK_lit rfl (by decide)) rfl (by simpa using hok2) hw1 (fun q hq => by rw [List.mem_singleton.1 hq]; exact .head _) (fun _ _ => trivial))) ?_
  intro b19 hb19
  obtain rfl : b19 = true := hb19.trans h2
  refine x_bool rfl rfl rfl (v_and rfl rfl) ?_
  intro b20 hb20
  obtain rfl : b20 = true := hb20
  refine x_val rfl rfl rfl (v_move rfl) ?_
  refine x_if [] rfl rfl rfl rfl rfl (fun hg => by obtain ⟨hg0, _⟩ := hg; (try simp only [List.cons_append, List.nil_append, gvl_nil, gvl_t, gvl_f]); exact v_fieldAddr (off' := 4) Tryd.underlying45 rfl sz3 (by decide) rfl rfl) ?_
  refine x_if [] rfl rfl rfl rfl rfl (fun hg => by obtain ⟨hg0, _⟩ := hg; (try simp only [List.cons_append, List.nil_append, gvl_nil, gvl_t, gvl_f]); exact v_load Tryd.underlying3 rfl rfl (at_ownL (vs := o.cells) (by repeat (first | exact List.Mem.head _ | apply List.Mem.tail)) rfl)) ?_
  refine x_buildSlice_g (cs := [Value.int .i64 o.copies]) rfl rfl rfl rfl rfl Tryd.underlying96 sz3 zr3 rfl rfl rfl ?_
  intro p24
  refine x_call_ifb [] rfl rfl rfl rfl rfl Tryd.func46 (by kernel_rfl) (fun hg => by obtain ⟨hg0, _⟩ := hg; (try simp only [List.cons_append, List.nil_append, gvl_nil, gvl_t, gvl_f]); refine ⟨_, rfl, ?_⟩; exact fun w1 hw1 => c_within 1 9999 w1 (rowI_rd (D := fun _ => True) (e := 3) (r := some (p24, [Value.int .i64 o.copies], 1)) (n := 1) (ds := [o.copies]) (rowOK_lit rfl (by decide)) rfl (by simpa using hok3) hw1 (fun q hq => by rw [List.mem_singleton.1 hq]; exact .head _) (fun _ _ => trivial))) ?_
  intro b25 hb25
  refine x_val (v := .bool b25) rfl rfl rfl (v_pick (b := true) rfl rfl) ?_
  refine x_val rfl rfl rfl (v_assign rfl) ?_
  refine x_end ?_
  refine t_norm ?_
  refine w_ret ?_
  refine ret1 rfl rfl (fun w' hm => ⟨?_, hm.base (by simp)⟩)
  unfold writB; rw [h1, h2, hb25]; rfl
theorem c_writable (o : Ord) (w : World) (hok : o.ok) :
    Calls Tryd.prog 30 #[.agg o.cells.toArray] w fun e w' => e = .returned (.bool (writB o)) ∧ Later w w' := by
  cases h1 : wi 1 999999999 [o.id, o.fund] with
  | false => exact c_wrA o w hok h1
  | true =>
    cases h2 : wi 0 999999999 [o.src, o.num, o.price] with
    | false => exact c_wrB o w hok h1 h2
    | true => exact c_wrC o w hok h1 h2

end Go.Proofs.YtbamklefagghcaaDoor

namespace Go.Proofs.YtbamklefagghcaaDoor
open Go.RowKit Go.PK
set_option linter.unusedVariables false
set_option linter.unusedSimpArgs false
set_option maxRecDepth 100000 in
theorem c_segment {v : Value} {es : List ByteArray} {D : Nat → Prop} (tag : ByteArray) (w : World) (hes : sliceRd tyStr D w v es) (hz : ∀ e ∈ es, e.size ≤ 2000000000) (hn : es.length ≤ 1000) (hL : LD w) :
    Calls Tryd.prog 31 #[.string tag, v] w fun e w' => ∃ u, e = .returned (.agg #[.string tag, u]) ∧ Later w w' ∧ sliceRd (tySlice tyStr) (fun b => w.heap.size ≤ b) w' u (es.map splitC) := by
  obtain ⟨A, cp, rfl, hlc, hmx, _⟩ := id hes
  refine enter (vs := [.string tag, Value.slice A es.length cp]) Tryd.func31 rfl Tryd.ntmps31 rfl ?_
  refine w_seq ?_
  refine rg_text ?_
  refine x_alloc rfl rfl rfl zr40 ?_
  intro p4
  refine x_end ?_
  refine t_norm ?_
  refine w_seq ?_
  refine rg_text ?_
  refine x_val rfl rfl rfl (v_move rfl) ?_
  refine x_val rfl rfl rfl (v_buildL (places := [(0, 1), (1, 1)]) Tryd.underlying40 zr40 (by kernel_rfl) rfl rfl) ?_
  refine x_alloc rfl rfl rfl zr40 ?_
  intro p5
  refine x_store0 [] rfl rfl rfl rfl sz40 rfl rfl ?_
  refine x_end ?_
  refine t_norm ?_
  refine w_seq ?_
  refine w_seq ?_
  refine rg_text ?_
  refine x_val rfl rfl rfl (v_move rfl) ?_
  refine x_val rfl rfl rfl (v_len_slice Tryd.underlying25 rfl) ?_
  refine x_val rfl rfl rfl (v_move rfl) ?_
  refine x_end ?_
  refine t_norm ?_
  refine w_block ?_
  refine w_fix ((p5, Obj.cells [Value.string tag, rowV none (0)].toArray 40) :: (rowO 25 none ++ [(p4, Obj.cells [Value.string ⟨#[]⟩, .slice none 0 0].toArray 40)])) (List.Sublist.refl _) (fun w0 hm0 => ?_)
  refine w_loop (σ := Nat × RowS × World) (fun x => x.1 ≤ es.length ∧ RowT (tySlice tyStr) (newD w ((p5, Obj.cells [Value.string tag, rowV x.2.1 (x.1)].toArray 40) :: (rowO 25 x.2.1 ++ [(p4, Obj.cells [Value.string ⟨#[]⟩, .slice none 0 0].toArray 40)]))) x.2.2 x.2.1 ((es.take x.1).map splitC)) (fun x => [(4, Value.pointer (some ⟨p4, 0, none⟩)), (5, Value.pointer (some ⟨p5, 0, none⟩)), (10, Value.slice A es.length cp), (11, Value.int .i64 (es.length : Nat)), (12, Value.int .i64 (x.1 : Nat))]) (fun x => (p5, Obj.cells [Value.string tag, rowV x.2.1 (x.1)].toArray 40) :: (rowO 25 x.2.1 ++ [(p4, Obj.cells [Value.string ⟨#[]⟩, .slice none 0 0].toArray 40)])) (fun x => (x.2.2, notOwn ((p5, Obj.cells [Value.string tag, rowV x.2.1 (x.1)].toArray 40) :: (rowO 25 x.2.1 ++ [(p4, Obj.cells [Value.string ⟨#[]⟩, .slice none 0 0].toArray 40)]))) :: [(w, fun _ => True)]) (fun x => es.length - x.1) ((0, none, w0)) (⟨Nat.zero_le _, RowT.nil⟩) (l_start (by repeat (first | exact Sub.nil | refine Sub.cons rfl ?_)) (fun _ h => h)) ?_
  rintro ⟨k, R, ws⟩ ⟨hk, hT⟩
  refine w_state ([(4, Value.pointer (some ⟨p4, 0, none⟩)), (5, Value.pointer (some ⟨p5, 0, none⟩)), (10, Value.slice A es.length cp), (11, Value.int .i64 (es.length : Nat)), (12, Value.int .i64 (k : Nat))]) ((p5, Obj.cells [Value.string tag, rowV R (k)].toArray 40) :: (rowO 25 R ++ [(p4, Obj.cells [Value.string ⟨#[]⟩, .slice none 0 0].toArray 40)])) ((ws, notOwn ((p5, Obj.cells [Value.string tag, rowV R (k)].toArray 40) :: (rowO 25 R ++ [(p4, Obj.cells [Value.string ⟨#[]⟩, .slice none 0 0].toArray 40)]))) :: [(w, fun _ => True)]) ?_
  dsimp only at hk hT
  have hln : ((es.take k).map splitC).length = k := by simp; omega
  refine w_seq ?_
  refine rg_text ?_
  refine x_bool rfl rfl rfl (v_lss rfl rfl) ?_
  intro b13 hb13
  refine x_end ?_
  refine t_norm ?_
  refine w_seq ?_
  refine w_cond rfl (fun hc13 => ?_) (fun hc13 => ?_)
  · simp only [hb13, decide_eq_true_eq, decide_eq_false_iff_not, Bool.and_eq_true, Bool.or_eq_true, Bool.and_eq_false_iff, Bool.or_eq_false_iff, Bool.not_eq_true', Bool.not_eq_false', ne_eq, Decidable.not_not] at hc13
    have hkl : k < es.length := by omega
    obtain ⟨b0, o0, hA0, _, hc0, _⟩ := s_at hes hkl
    have hze := hz _ (List.getElem_mem hkl)
    refine w_skip ?_
    refine t_norm ?_
    refine w_seq ?_
    refine w_block ?_
    refine w_seq ?_
    refine rg_text ?_
    refine x_val rfl rfl rfl (v_indexAddr Tryd.underlying25 sz9 (congrArg (fun A => some (Value.slice A es.length cp)) hA0) rfl (by first | omega | (dsimp only; omega)) rfl) ?_
    refine x_val rfl rfl rfl (v_load Tryd.underlying9 rfl rfl (at_ro (List.mem_cons_of_mem _ (.head _)) trivial (by rw [Nat.mul_one]; exact hc0))) ?_
    refine x_val rfl rfl rfl (v_assign rfl) ?_
    refine x_end ?_
    refine t_norm ?_
    refine rg_draw 5 [(true, 0), (true, 1), (true, 2), (false, 3), (false, 4)] (by kernel_rfl) (by kernel_rfl) ?_
    refine x_val rfl rfl rfl (v_fieldAddr (off' := 1) Tryd.underlying40 rfl sz38 (by decide) rfl rfl) ?_
    refine x_val rfl rfl rfl (v_load Tryd.underlying38 rfl rfl (at_ownL (vs := [Value.string tag, rowV R k]) (.head _) rfl)) ?_
    refine x_val rfl rfl rfl (v_move rfl) ?_
    refine x_call (R := fun v wa wb => sliceRd tyStr (fun b => wa.heap.size ≤ b) wb v (splitC es[k])) rfl rfl rfl Tryd.func47 (by kernel_rfl) rfl (fun w1 hw1 => c_Split es[k] w1 hze (hL.later (hw1.base (by simp)))) ?_
    intro v19 wa wb hwa hwl hR
    obtain ⟨A9, c9, rfl, hl9, hm9, _⟩ := id hR
    obtain ⟨css, hcl, hrow, hrd⟩ := hT
    rw [hln] at hcl hrow
    refine x_buildSliceL (cs := [Value.slice A9 (splitC es[k]).length c9]) rfl rfl rfl Tryd.underlying38 sz25 zr25 rfl rfl rfl ?_
    intro p20
    refine x_append (e := 25) [(p20, Obj.cells [Value.slice A9 (splitC es[k]).length c9].toArray 25), (p5, Obj.cells [Value.string tag, rowV R (k)].toArray 40)] (l2 := [(p4, Obj.cells [Value.string ⟨#[]⟩, .slice none 0 0].toArray 40)]) R (len := k) (xs := css.flatten) rfl rfl rfl rfl rfl hrow Tryd.underlying38 ap25 rfl rfl (m := 1) (news := [Value.slice A9 (splitC es[k]).length c9]) (fun i hi => at_ownL (vs := [Value.slice A9 (splitC es[k]).length c9]) (.head _) (by rw [Nat.zero_add]; exact List.getElem?_eq_getElem hi)) rfl (by simp only [maxLen]; omega) (by omega) ?_
    intro R' hR'
    refine x_val rfl rfl rfl (v_fieldAddr (off' := 1) Tryd.underlying40 rfl sz38 (by decide) rfl rfl) ?_
    refine x_store (cs := [Value.string tag, rowV R k]) (off := 1) [(p20, Obj.cells [Value.slice A9 (splitC es[k]).length c9].toArray 25)] rfl rfl rfl rfl sz38 rfl (by show 2 ≤ 2; decide) ?_
    refine x_end ?_
    refine b_norm ?_
    refine t_norm ?_
    refine rg_text ?_
    refine x_val rfl rfl rfl (v_addi rfl rfl rfl (by first | omega | (dsimp only; omega))) ?_
    refine x_val rfl rfl rfl (v_move rfl) ?_
    refine x_end ?_
    refine s_fix ((p5, Obj.cells [Value.string tag, rowV R' (k + 1)].toArray 40) :: (rowO 25 R' ++ [(p4, Obj.cells [Value.string ⟨#[]⟩, .slice none 0 0].toArray 40)])) (List.sublist_cons_self _ _) (fun w0 hm0 => ?_)
    have hT' := snocN (T := tySlice tyStr) (D := newD w ((p5, Obj.cells [Value.string tag, rowV R' (k + 1)].toArray 40) :: (rowO 25 R' ++ [(p4, Obj.cells [Value.string ⟨#[]⟩, .slice none 0 0].toArray 40)]))) (ws := w0) (x := splitC es[k]) hln hcl (fun j h1 h2 => (tySlice tyStr).keep (hrd j h1 h2) (Kept.frz hm0 (List.sublist_cons_self _ _) (by simp))) hR' ⟨_, rfl, hR.keep (Kept.made2 (hm0.less (List.sublist_cons_self _ _) (fun _ h => h)) (.head _) (fun k hk p hp he => by have := hwa.lt hp; omega) (hwa.base (by simp)).size)⟩
    exact l_norm (x := (k, R, ws)) (μ := fun q : Nat × RowS × World => es.length - q.1) (k + 1, R', w0) ⟨by dsimp only; omega, by dsimp only; rw [List.take_succ_eq_append_getElem hkl, List.map_append]; exact hT'⟩ (by simp only; omega) (by repeat (first | exact Sub.nil | refine Sub.cons rfl ?_)) (fun w1 h => h.less (List.Sublist.refl _) (fun q hq => by simp at hq ⊢; rcases hq with h | h; (· exact .inl h); simp [h]))
  · simp only [hb13, decide_eq_false_iff_not] at hc13
    obtain rfl : k = es.length := by omega
    rw [List.take_length] at hT hln
    refine w_exit ?_
    refine t_exit ?_
    refine t_exit ?_
    refine b_hit ?_
    refine t_norm ?_
    refine w_seq ?_
    refine rg_text ?_
    refine x_val rfl rfl rfl (v_load_blk (e := 40) (fz := (0, 0)) (cs := [Value.string tag, rowV R es.length].toArray) Tryd.underlying40 rfl rfl (.head _) sz40) ?_
    refine x_store0 ((p5, Obj.cells [Value.string tag, rowV R (es.length)].toArray 40) :: rowO 25 R) rfl rfl rfl rfl sz40 rfl rfl ?_
    refine x_end ?_
    refine t_norm ?_
    refine w_ret ?_
    refine retc rfl rfl (List.mem_cons_of_mem _ (List.mem_append_right _ (.head _))) Tryd.underlying40 rfl sz40 (fun w' hm => ⟨_, rfl, hm.base (by simp), ?_⟩)
    exact (hT.keep (Kept.frz hm (List.Sublist.refl _) (.head _))).rd (e := 25) hm (fun q hq => List.mem_cons_of_mem _ (List.mem_append_left _ hq)) (fun _ h => h.1) (fun q hq => hm.newer (by simp) (List.mem_cons_of_mem _ (List.mem_append_left _ hq))) hln.symm

end Go.Proofs.YtbamklefagghcaaDoor

namespace Go.Proofs.YtbamklefagghcaaDoor
open Go.RowKit Go.PK
set_option linter.unusedVariables false
set_option linter.unusedSimpArgs false
theorem seg_out {tag : ByteArray} {u : Value} {e : Ending} {wa wb : World} {ys : List (List ByteArray)} {n : Nat} (h1 : e = .returned (.agg #[.string tag, u])) (h2 : Later wa wb) (h3 : sliceRd (tySlice tyStr) (fun b => wa.heap.size ≤ b) wb u ys) (hn : ys.length = n := by rfl) :
    ∃ v, e = .returned v ∧ Later wa wb ∧ ∃ A c, v = .agg #[.string tag, .slice A n c] ∧ sliceRd (tySlice tyStr) (fun b => wa.heap.size ≤ b) wb (.slice A n c) ys := by
  obtain ⟨A, c, rfl, hh⟩ := id h3
  subst hn
  exact ⟨_, h1, h2, A, c, rfl, h3⟩
theorem ok_of {s : ByteArray} (h : s.size ≤ 100) : okS s := by unfold okS; omega
set_option maxHeartbeats 4000000 in
set_option maxRecDepth 100000 in
theorem c_Order (o : Ord) (w : World) (hok : o.ok) (hL : LD w) :
    Calls Tryd.prog 13 #[.agg o.cells.toArray] w fun e w' => ∃ v, e = .returned v ∧ Later w w' ∧ sliceRd tySeg (fun b => w.heap.size ≤ b) w' v (orderR o) := by
  have y1 := itoaS_size hok.1
  have y2 := itoaS_size hok.2.1
  have y3 := itoaS_size hok.2.2.2.2.1
  have y4 := itoaS_size hok.2.2.2.2.2
  have y5 := artS_size hok.2.2.1 hok.2.2.2.1
  have z6 : ∀ s ∈ ([⟨#[49]⟩, ⟨#[79, 82, 68, 69, 82, 83, 58, 68, 58, 57, 54, 65, 58, 85, 78]⟩] : List ByteArray), s.size ≤ 100 := by
    intro s hs
    simp only [List.mem_cons, List.not_mem_nil, or_false] at hs
    first | (rcases hs with rfl | rfl | rfl) | (rcases hs with rfl | rfl) | (subst hs)
    all_goals (first | decide | omega | (rw [ByteArray.size_append]; show (⟨#[_, _, _, _]⟩ : ByteArray).size + _ ≤ 100; exact Nat.le_trans (Nat.add_le_add_left (by assumption) _) (by decide)) | (rw [ByteArray.size_append]; show (⟨#[_, _, _]⟩ : ByteArray).size + _ ≤ 100; exact Nat.le_trans (Nat.add_le_add_left (by assumption) _) (by decide)))
  have z11 : ∀ s ∈ ([⟨#[50, 50, 48]⟩, itoaS o.id] : List ByteArray), s.size ≤ 100 := by
    intro s hs
    simp only [List.mem_cons, List.not_mem_nil, or_false] at hs
    first | (rcases hs with rfl | rfl | rfl) | (rcases hs with rfl | rfl) | (subst hs)
    all_goals (first | decide | omega | (rw [ByteArray.size_append]; show (⟨#[_, _, _, _]⟩ : ByteArray).size + _ ≤ 100; exact Nat.le_trans (Nat.add_le_add_left (by assumption) _) (by decide)) | (rw [ByteArray.size_append]; show (⟨#[_, _, _]⟩ : ByteArray).size + _ ≤ 100; exact Nat.le_trans (Nat.add_le_add_left (by assumption) _) (by decide)))
  have z16 : ∀ s ∈ ([⟨#[49]⟩, ⟨#[]⟩, artS o.src o.num] : List ByteArray), s.size ≤ 100 := by
    intro s hs
    simp only [List.mem_cons, List.not_mem_nil, or_false] at hs
    first | (rcases hs with rfl | rfl | rfl) | (rcases hs with rfl | rfl) | (subst hs)
    all_goals (first | decide | omega | (rw [ByteArray.size_append]; show (⟨#[_, _, _, _]⟩ : ByteArray).size + _ ≤ 100; exact Nat.le_trans (Nat.add_le_add_left (by assumption) _) (by decide)) | (rw [ByteArray.size_append]; show (⟨#[_, _, _]⟩ : ByteArray).size + _ ≤ 100; exact Nat.le_trans (Nat.add_le_add_left (by assumption) _) (by decide)))
  have z22 : ∀ s ∈ ([(⟨#[50, 49, 58]⟩ : ByteArray) ++ itoaS o.copies] : List ByteArray), s.size ≤ 100 := by
    intro s hs
    simp only [List.mem_cons, List.not_mem_nil, or_false] at hs
    first | (rcases hs with rfl | rfl | rfl) | (rcases hs with rfl | rfl) | (subst hs)
    all_goals (first | decide | omega | (rw [ByteArray.size_append]; show (⟨#[_, _, _, _]⟩ : ByteArray).size + _ ≤ 100; exact Nat.le_trans (Nat.add_le_add_left (by assumption) _) (by decide)) | (rw [ByteArray.size_append]; show (⟨#[_, _, _]⟩ : ByteArray).size + _ ≤ 100; exact Nat.le_trans (Nat.add_le_add_left (by assumption) _) (by decide)))
  have z28 : ∀ s ∈ ([(⟨#[65, 65, 65, 58]⟩ : ByteArray) ++ itoaS o.price] : List ByteArray), s.size ≤ 100 := by
    intro s hs
    simp only [List.mem_cons, List.not_mem_nil, or_false] at hs
    first | (rcases hs with rfl | rfl | rfl) | (rcases hs with rfl | rfl) | (subst hs)
    all_goals (first | decide | omega | (rw [ByteArray.size_append]; show (⟨#[_, _, _, _]⟩ : ByteArray).size + _ ≤ 100; exact Nat.le_trans (Nat.add_le_add_left (by assumption) _) (by decide)) | (rw [ByteArray.size_append]; show (⟨#[_, _, _]⟩ : ByteArray).size + _ ≤ 100; exact Nat.le_trans (Nat.add_le_add_left (by assumption) _) (by decide)))
  have z34 : ∀ s ∈ ([(⟨#[66, 70, 78, 58]⟩ : ByteArray) ++ itoaS o.fund] : List ByteArray), s.size ≤ 100 := by
    intro s hs
    simp only [List.mem_cons, List.not_mem_nil, or_false] at hs
    first | (rcases hs with rfl | rfl | rfl) | (rcases hs with rfl | rfl) | (subst hs)
    all_goals (first | decide | omega | (rw [ByteArray.size_append]; show (⟨#[_, _, _, _]⟩ : ByteArray).size + _ ≤ 100; exact Nat.le_trans (Nat.add_le_add_left (by assumption) _) (by decide)) | (rw [ByteArray.size_append]; show (⟨#[_, _, _]⟩ : ByteArray).size + _ ≤ 100; exact Nat.le_trans (Nat.add_le_add_left (by assumption) _) (by decide)))
  have z36 : ∀ s ∈ ([⟨#[55]⟩, ⟨#[49]⟩] : List ByteArray), s.size ≤ 100 := by
    intro s hs
    simp only [List.mem_cons, List.not_mem_nil, or_false] at hs
    first | (rcases hs with rfl | rfl | rfl) | (rcases hs with rfl | rfl) | (subst hs)
    all_goals (first | decide | omega | (rw [ByteArray.size_append]; show (⟨#[_, _, _, _]⟩ : ByteArray).size + _ ≤ 100; exact Nat.le_trans (Nat.add_le_add_left (by assumption) _) (by decide)) | (rw [ByteArray.size_append]; show (⟨#[_, _, _]⟩ : ByteArray).size + _ ≤ 100; exact Nat.le_trans (Nat.add_le_add_left (by assumption) _) (by decide)))
  
  refine enter (vs := [.agg o.cells.toArray]) Tryd.func13 rfl Tryd.ntmps13 rfl ?_
  refine w_seq ?_
  refine rg_text ?_
  refine x_box rfl rfl rfl rfl ?_
  intro p1
  refine x_val rfl rfl rfl (v_assign rfl) ?_
  refine x_end ?_
  refine t_norm ?_
  refine w_seq ?_
  refine w_seq ?_
  refine rg_text ?_
  refine x_val rfl rfl rfl (v_load_blk (e := 45) (fz := (0, 0)) (cs := o.cells.toArray) Tryd.underlying45 rfl rfl (.head _) sz45) ?_
  refine x_callb rfl rfl rfl Tryd.func30 (by kernel_rfl) rfl (fun w1 hw1 => c_writable o w1 hok) ?_
  intro b4 hb4
  refine x_bool rfl rfl rfl (v_not rfl) ?_
  intro b5 hb5
  refine x_end ?_
  refine t_norm ?_
  refine w_cond rfl (fun hc5 => ?_) (fun hc5 => ?_)
  · have hw : writB o = false := by rw [hb5, hb4] at hc5; simpa using hc5
    refine w_seq ?_
    refine rg_text ?_
    refine x_val rfl rfl rfl (v_assign rfl) ?_
    refine x_end ?_
    refine t_norm ?_
    refine w_ret ?_
    refine t_ret ?_
    refine ret1 rfl rfl (fun w' hm => ?_)
    rw [show orderR o = [] from by unfold orderR; rw [hw]; rfl]; exact ⟨_, rfl, hm.base (by simp), sliceRd_nil⟩
  · have hw : writB o = true := by rw [hb5, hb4] at hc5; simpa using hc5
    refine w_skip ?_
    refine t_norm ?_
    refine w_seq ?_
    refine rg_tree 34 (.flt 2 (.flt 3 (.flt 7 (.flt 8 (.flt 12 (.flt 13 (.flt 18 (.flt 19 (.flt 24 (.flt 25 (.gr 0 (.gr 1 (.flt 4 (.gr 5 (.gr 6 (.flt 9 (.gr 10 (.gr 11 (.flt 14 (.flt 15 (.gr 16 (.gr 17 (.flt 20 (.flt 21 (.gr 22 (.gr 23 (.flt 26 (.flt 27 (.gr 28 (.gr 29 (.gr 30 (.gr 31 (.gr 32 (.flt 33 .done) .nil) .nil) .nil) (.gr 30 (.gr 29 (.gr 31 (.gr 32 (.flt 33 .done) .nil) .nil) .nil) .nil)) (.gr 30 (.gr 28 (.gr 29 (.gr 31 (.gr 32 (.flt 33 .done) .nil) .nil) .nil) .nil) .nil)))) (.gr 30 (.gr 23 (.flt 26 (.flt 27 (.gr 28 (.gr 29 (.gr 31 (.gr 32 (.flt 33 .done) .nil) .nil) .nil) .nil))) .nil) .nil)) (.gr 30 (.gr 22 (.gr 23 (.flt 26 (.flt 27 (.gr 28 (.gr 29 (.gr 31 (.gr 32 (.flt 33 .done) .nil) .nil) .nil) .nil))) .nil) .nil) .nil)))) (.gr 30 (.gr 17 (.flt 20 (.flt 21 (.gr 22 (.gr 23 (.flt 26 (.flt 27 (.gr 28 (.gr 29 (.gr 31 (.gr 32 (.flt 33 .done) .nil) .nil) .nil) .nil))) .nil) .nil))) .nil) .nil)) (.gr 30 (.gr 16 (.gr 17 (.flt 20 (.flt 21 (.gr 22 (.gr 23 (.flt 26 (.flt 27 (.gr 28 (.gr 29 (.gr 31 (.gr 32 (.flt 33 .done) .nil) .nil) .nil) .nil))) .nil) .nil))) .nil) .nil) .nil)))) (.gr 30 (.gr 11 (.flt 14 (.flt 15 (.gr 16 (.gr 17 (.flt 20 (.flt 21 (.gr 22 (.gr 23 (.flt 26 (.flt 27 (.gr 28 (.gr 29 (.gr 31 (.gr 32 (.flt 33 .done) .nil) .nil) .nil) .nil))) .nil) .nil))) .nil) .nil))) .nil) .nil)) (.gr 30 (.gr 10 (.gr 11 (.flt 14 (.flt 15 (.gr 16 (.gr 17 (.flt 20 (.flt 21 (.gr 22 (.gr 23 (.flt 26 (.flt 27 (.gr 28 (.gr 29 (.gr 31 (.gr 32 (.flt 33 .done) .nil) .nil) .nil) .nil))) .nil) .nil))) .nil) .nil))) .nil) .nil) .nil))) (.gr 30 (.gr 6 (.flt 9 (.gr 10 (.gr 11 (.flt 14 (.flt 15 (.gr 16 (.gr 17 (.flt 20 (.flt 21 (.gr 22 (.gr 23 (.flt 26 (.flt 27 (.gr 28 (.gr 29 (.gr 31 (.gr 32 (.flt 33 .done) .nil) .nil) .nil) .nil))) .nil) .nil))) .nil) .nil))) .nil) .nil)) .nil) .nil)) (.gr 30 (.gr 5 (.gr 6 (.flt 9 (.gr 10 (.gr 11 (.flt 14 (.flt 15 (.gr 16 (.gr 17 (.flt 20 (.flt 21 (.gr 22 (.gr 23 (.flt 26 (.flt 27 (.gr 28 (.gr 29 (.gr 31 (.gr 32 (.flt 33 .done) .nil) .nil) .nil) .nil))) .nil) .nil))) .nil) .nil))) .nil) .nil)) .nil) .nil) .nil))) (.gr 30 (.gr 1 (.flt 4 (.gr 5 (.gr 6 (.flt 9 (.gr 10 (.gr 11 (.flt 14 (.flt 15 (.gr 16 (.gr 17 (.flt 20 (.flt 21 (.gr 22 (.gr 23 (.flt 26 (.flt 27 (.gr 28 (.gr 29 (.gr 31 (.gr 32 (.flt 33 .done) .nil) .nil) .nil) .nil))) .nil) .nil))) .nil) .nil))) .nil) .nil)) .nil) .nil)) .nil) .nil)) (.gr 30 (.gr 0 (.gr 1 (.flt 4 (.gr 5 (.gr 6 (.flt 9 (.gr 10 (.gr 11 (.flt 14 (.flt 15 (.gr 16 (.gr 17 (.flt 20 (.flt 21 (.gr 22 (.gr 23 (.flt 26 (.flt 27 (.gr 28 (.gr 29 (.gr 31 (.gr 32 (.flt 33 .done) .nil) .nil) .nil) .nil))) .nil) .nil))) .nil) .nil))) .nil) .nil)) .nil) .nil)) .nil) .nil) .nil)))))))))))) (by kernel_rfl) (by kernel_rfl) ?_
    refine t_flt (Q := fun _ _ _ => False) ?_
    refine x_val rfl rfl rfl (v_fieldAddr (off' := 0) Tryd.underlying45 rfl sz3 (by decide) rfl rfl) ?_
    refine x_end ?_
    refine t_flt (Q := fun _ _ _ => False) ?_
    refine x_val rfl rfl rfl (v_load Tryd.underlying3 rfl rfl (at_ownL (vs := o.cells) (by repeat (first | exact List.Mem.head _ | apply List.Mem.tail)) rfl)) ?_
    refine x_end ?_
    refine t_flt (Q := fun _ _ _ => False) ?_
    refine x_val rfl rfl rfl (v_fieldAddr (off' := 2) Tryd.underlying45 rfl sz43 (by decide) rfl rfl) ?_
    refine x_end ?_
    refine t_flt (Q := fun _ _ _ => False) ?_
    refine x_val rfl rfl rfl (v_loadN (vs := [Value.int .i64 o.src, .int .i64 o.num]) Tryd.underlying43 rfl sz43 rfl (fun j hj => at_ownL (vs := o.cells) (by repeat (first | exact List.Mem.head _ | apply List.Mem.tail)) (by match j, hj with | 0, _ => rfl | 1, _ => rfl))) ?_
    refine x_end ?_
    refine t_flt (Q := fun _ _ _ => False) ?_
    refine x_val rfl rfl rfl (v_fieldAddr (off' := 4) Tryd.underlying45 rfl sz3 (by decide) rfl rfl) ?_
    refine x_end ?_
    refine t_flt (Q := fun _ _ _ => False) ?_
    refine x_val rfl rfl rfl (v_load Tryd.underlying3 rfl rfl (at_ownL (vs := o.cells) (by repeat (first | exact List.Mem.head _ | apply List.Mem.tail)) rfl)) ?_
    refine x_end ?_
    refine t_flt (Q := fun _ _ _ => False) ?_
    refine x_val rfl rfl rfl (v_fieldAddr (off' := 5) Tryd.underlying45 rfl sz3 (by decide) rfl rfl) ?_
    refine x_end ?_
    refine t_flt (Q := fun _ _ _ => False) ?_
    refine x_val rfl rfl rfl (v_load Tryd.underlying3 rfl rfl (at_ownL (vs := o.cells) (by repeat (first | exact List.Mem.head _ | apply List.Mem.tail)) rfl)) ?_
    refine x_end ?_
    refine t_flt (Q := fun _ _ _ => False) ?_
    refine x_val rfl rfl rfl (v_fieldAddr (off' := 1) Tryd.underlying45 rfl sz3 (by decide) rfl rfl) ?_
    refine x_end ?_
    refine t_flt (Q := fun _ _ _ => False) ?_
    refine x_val rfl rfl rfl (v_load Tryd.underlying3 rfl rfl (at_ownL (vs := o.cells) (by repeat (first | exact List.Mem.head _ | apply List.Mem.tail)) rfl)) ?_
    refine x_end ?_
    refine t_gr (Q := fun _ _ _ => False) ?_ ?_
    · refine x_buildSliceL (cs := [Value.string (⟨#[49]⟩), Value.string (⟨#[79, 82, 68, 69, 82, 83, 58, 68, 58, 57, 54, 65, 58, 85, 78]⟩)]) rfl rfl rfl Tryd.underlying25 sz9 zr9 rfl rfl rfl ?_
      intro p6
      refine x_end ?_
      refine t_gr (Q := fun _ _ _ => False) ?_ ?_
      · refine x_call (R := fun v wa wb => ∃ A c, v = .agg #[.string ⟨#[85, 78, 72]⟩, .slice A 2 c] ∧ sliceRd (tySlice tyStr) (fun b => wa.heap.size ≤ b) wb (.slice A 2 c) [splitC (⟨#[49]⟩), splitC (⟨#[79, 82, 68, 69, 82, 83, 58, 68, 58, 57, 54, 65, 58, 85, 78]⟩)]) rfl rfl rfl Tryd.func31 (by kernel_rfl) rfl (fun w1 hw1 => (c_segment (es := [⟨#[49]⟩, ⟨#[79, 82, 68, 69, 82, 83, 58, 68, 58, 57, 54, 65, 58, 85, 78]⟩]) (D := fun _ => True) ⟨#[85, 78, 72]⟩ w1 (rowS_rd (e := 9) (r := some (p6, [Value.string (⟨#[49]⟩), Value.string (⟨#[79, 82, 68, 69, 82, 83, 58, 68, 58, 57, 54, 65, 58, 85, 78]⟩)], 2)) (n := 2) (rowOK_lit rfl (by decide)) rfl (fun s hs => ok_of (z6 s hs)) hw1 (fun q hq => by rw [List.mem_singleton.1 hq]; exact (by repeat (first | exact List.Mem.head _ | apply List.Mem.tail))) (fun _ _ => trivial)) (fun s hs => Nat.le_trans (z6 s hs) (by decide)) (by show 2 ≤ 1000; decide) (hL.later (hw1.base (by simp)))).mono fun e w2 ⟨u, h1, h2, h3⟩ => seg_out h1 h2 h3) ?_
        intro v7 wa7 wb7 hm7 hl7 hR7
        obtain ⟨A7, c7, rfl, hs7⟩ := hR7
        refine x_end ?_
        refine t_flt (Q := fun _ _ _ => False) ?_
        refine x_callv rfl rfl rfl Tryd.func32 (by kernel_rfl) rfl (fun w1 hw1 => c_number o.id w1 hok.1 (hL.later (hw1.base (by simp)))) ?_
        refine x_end ?_
        refine t_gr (Q := fun _ _ _ => False) ?_ ?_
        · refine x_buildSliceL (cs := [Value.string (⟨#[50, 50, 48]⟩), Value.string (itoaS o.id)]) rfl rfl rfl Tryd.underlying25 sz9 zr9 rfl rfl rfl ?_
          intro p11
          refine x_end ?_
          refine t_gr (Q := fun _ _ _ => False) ?_ ?_
          · refine x_call (R := fun v wa wb => ∃ A c, v = .agg #[.string ⟨#[66, 71, 77]⟩, .slice A 2 c] ∧ sliceRd (tySlice tyStr) (fun b => wa.heap.size ≤ b) wb (.slice A 2 c) [splitC (⟨#[50, 50, 48]⟩), splitC (itoaS o.id)]) rfl rfl rfl Tryd.func31 (by kernel_rfl) rfl (fun w1 hw1 => (c_segment (es := [⟨#[50, 50, 48]⟩, itoaS o.id]) (D := fun _ => True) ⟨#[66, 71, 77]⟩ w1 (rowS_rd (e := 9) (r := some (p11, [Value.string (⟨#[50, 50, 48]⟩), Value.string (itoaS o.id)], 2)) (n := 2) (rowOK_lit rfl (by decide)) rfl (fun s hs => ok_of (z11 s hs)) hw1 (fun q hq => by rw [List.mem_singleton.1 hq]; exact (by repeat (first | exact List.Mem.head _ | apply List.Mem.tail))) (fun _ _ => trivial)) (fun s hs => Nat.le_trans (z11 s hs) (by decide)) (by show 2 ≤ 1000; decide) (hL.later (hw1.base (by simp)))).mono fun e w2 ⟨u, h1, h2, h3⟩ => seg_out h1 h2 h3) ?_
            intro v12 wa12 wb12 hm12 hl12 hR12
            obtain ⟨A12, c12, rfl, hs12⟩ := hR12
            refine x_end ?_
            refine t_flt (Q := fun _ _ _ => False) ?_
            refine x_callv rfl rfl rfl Tryd.func33 (by kernel_rfl) rfl (fun w1 hw1 => c_article o.src o.num w1 hok.2.2.1 hok.2.2.2.1 (hL.later (hw1.base (by simp)))) ?_
            refine x_end ?_
            refine t_gr (Q := fun _ _ _ => False) ?_ ?_
            · refine x_buildSliceL (cs := [Value.string (⟨#[49]⟩), Value.string (⟨#[]⟩), Value.string (artS o.src o.num)]) rfl rfl rfl Tryd.underlying25 sz9 zr9 rfl rfl rfl ?_
              intro p16
              refine x_end ?_
              refine t_gr (Q := fun _ _ _ => False) ?_ ?_
              · refine x_call (R := fun v wa wb => ∃ A c, v = .agg #[.string ⟨#[76, 73, 78]⟩, .slice A 3 c] ∧ sliceRd (tySlice tyStr) (fun b => wa.heap.size ≤ b) wb (.slice A 3 c) [splitC (⟨#[49]⟩), splitC (⟨#[]⟩), splitC (artS o.src o.num)]) rfl rfl rfl Tryd.func31 (by kernel_rfl) rfl (fun w1 hw1 => (c_segment (es := [⟨#[49]⟩, ⟨#[]⟩, artS o.src o.num]) (D := fun _ => True) ⟨#[76, 73, 78]⟩ w1 (rowS_rd (e := 9) (r := some (p16, [Value.string (⟨#[49]⟩), Value.string (⟨#[]⟩), Value.string (artS o.src o.num)], 3)) (n := 3) (rowOK_lit rfl (by decide)) rfl (fun s hs => ok_of (z16 s hs)) hw1 (fun q hq => by rw [List.mem_singleton.1 hq]; exact (by repeat (first | exact List.Mem.head _ | apply List.Mem.tail))) (fun _ _ => trivial)) (fun s hs => Nat.le_trans (z16 s hs) (by decide)) (by show 3 ≤ 1000; decide) (hL.later (hw1.base (by simp)))).mono fun e w2 ⟨u, h1, h2, h3⟩ => seg_out h1 h2 h3) ?_
                intro v17 wa17 wb17 hm17 hl17 hR17
                obtain ⟨A17, c17, rfl, hs17⟩ := hR17
                refine x_end ?_
                refine t_flt (Q := fun _ _ _ => False) ?_
                refine x_callv rfl rfl rfl Tryd.func32 (by kernel_rfl) rfl (fun w1 hw1 => c_number o.copies w1 hok.2.2.2.2.1 (hL.later (hw1.base (by simp)))) ?_
                refine x_end ?_
                refine t_flt (Q := fun _ _ _ => False) ?_
                refine x_val rfl rfl rfl (v_sadd rfl rfl (by show 3 + (itoaS _).size ≤ _; omega)) ?_
                refine x_end ?_
                refine t_gr (Q := fun _ _ _ => False) ?_ ?_
                · refine x_buildSliceL (cs := [Value.string ((⟨#[50, 49, 58]⟩ : ByteArray) ++ itoaS o.copies)]) rfl rfl rfl Tryd.underlying25 sz9 zr9 rfl rfl rfl ?_
                  intro p22
                  refine x_end ?_
                  refine t_gr (Q := fun _ _ _ => False) ?_ ?_
                  · refine x_call (R := fun v wa wb => ∃ A c, v = .agg #[.string ⟨#[81, 84, 89]⟩, .slice A 1 c] ∧ sliceRd (tySlice tyStr) (fun b => wa.heap.size ≤ b) wb (.slice A 1 c) [splitC ((⟨#[50, 49, 58]⟩ : ByteArray) ++ itoaS o.copies)]) rfl rfl rfl Tryd.func31 (by kernel_rfl) rfl (fun w1 hw1 => (c_segment (es := [(⟨#[50, 49, 58]⟩ : ByteArray) ++ itoaS o.copies]) (D := fun _ => True) ⟨#[81, 84, 89]⟩ w1 (rowS_rd (e := 9) (r := some (p22, [Value.string ((⟨#[50, 49, 58]⟩ : ByteArray) ++ itoaS o.copies)], 1)) (n := 1) (rowOK_lit rfl (by decide)) rfl (fun s hs => ok_of (z22 s hs)) hw1 (fun q hq => by rw [List.mem_singleton.1 hq]; exact (by repeat (first | exact List.Mem.head _ | apply List.Mem.tail))) (fun _ _ => trivial)) (fun s hs => Nat.le_trans (z22 s hs) (by decide)) (by show 1 ≤ 1000; decide) (hL.later (hw1.base (by simp)))).mono fun e w2 ⟨u, h1, h2, h3⟩ => seg_out h1 h2 h3) ?_
                    intro v23 wa23 wb23 hm23 hl23 hR23
                    obtain ⟨A23, c23, rfl, hs23⟩ := hR23
                    refine x_end ?_
                    refine t_flt (Q := fun _ _ _ => False) ?_
                    refine x_callv rfl rfl rfl Tryd.func32 (by kernel_rfl) rfl (fun w1 hw1 => c_number o.price w1 hok.2.2.2.2.2 (hL.later (hw1.base (by simp)))) ?_
                    refine x_end ?_
                    refine t_flt (Q := fun _ _ _ => False) ?_
                    refine x_val rfl rfl rfl (v_sadd rfl rfl (by show 4 + (itoaS _).size ≤ _; omega)) ?_
                    refine x_end ?_
                    refine t_gr (Q := fun _ _ _ => False) ?_ ?_
                    · refine x_buildSliceL (cs := [Value.string ((⟨#[65, 65, 65, 58]⟩ : ByteArray) ++ itoaS o.price)]) rfl rfl rfl Tryd.underlying25 sz9 zr9 rfl rfl rfl ?_
                      intro p28
                      refine x_end ?_
                      refine t_gr (Q := fun _ _ _ => False) ?_ ?_
                      · refine x_call (R := fun v wa wb => ∃ A c, v = .agg #[.string ⟨#[80, 82, 73]⟩, .slice A 1 c] ∧ sliceRd (tySlice tyStr) (fun b => wa.heap.size ≤ b) wb (.slice A 1 c) [splitC ((⟨#[65, 65, 65, 58]⟩ : ByteArray) ++ itoaS o.price)]) rfl rfl rfl Tryd.func31 (by kernel_rfl) rfl (fun w1 hw1 => (c_segment (es := [(⟨#[65, 65, 65, 58]⟩ : ByteArray) ++ itoaS o.price]) (D := fun _ => True) ⟨#[80, 82, 73]⟩ w1 (rowS_rd (e := 9) (r := some (p28, [Value.string ((⟨#[65, 65, 65, 58]⟩ : ByteArray) ++ itoaS o.price)], 1)) (n := 1) (rowOK_lit rfl (by decide)) rfl (fun s hs => ok_of (z28 s hs)) hw1 (fun q hq => by rw [List.mem_singleton.1 hq]; exact (by repeat (first | exact List.Mem.head _ | apply List.Mem.tail))) (fun _ _ => trivial)) (fun s hs => Nat.le_trans (z28 s hs) (by decide)) (by show 1 ≤ 1000; decide) (hL.later (hw1.base (by simp)))).mono fun e w2 ⟨u, h1, h2, h3⟩ => seg_out h1 h2 h3) ?_
                        intro v29 wa29 wb29 hm29 hl29 hR29
                        obtain ⟨A29, c29, rfl, hs29⟩ := hR29
                        refine x_end ?_
                        refine t_flt (Q := fun _ _ _ => False) ?_
                        refine x_callv rfl rfl rfl Tryd.func32 (by kernel_rfl) rfl (fun w1 hw1 => c_number o.fund w1 hok.2.1 (hL.later (hw1.base (by simp)))) ?_
                        refine x_end ?_
                        refine t_flt (Q := fun _ _ _ => False) ?_
                        refine x_val rfl rfl rfl (v_sadd rfl rfl (by show 4 + (itoaS _).size ≤ _; omega)) ?_
                        refine x_end ?_
                        refine t_gr (Q := fun _ _ _ => False) ?_ ?_
                        · refine x_buildSliceL (cs := [Value.string ((⟨#[66, 70, 78, 58]⟩ : ByteArray) ++ itoaS o.fund)]) rfl rfl rfl Tryd.underlying25 sz9 zr9 rfl rfl rfl ?_
                          intro p34
                          refine x_end ?_
                          refine t_gr (Q := fun _ _ _ => False) ?_ ?_
                          · refine x_call (R := fun v wa wb => ∃ A c, v = .agg #[.string ⟨#[82, 70, 70]⟩, .slice A 1 c] ∧ sliceRd (tySlice tyStr) (fun b => wa.heap.size ≤ b) wb (.slice A 1 c) [splitC ((⟨#[66, 70, 78, 58]⟩ : ByteArray) ++ itoaS o.fund)]) rfl rfl rfl Tryd.func31 (by kernel_rfl) rfl (fun w1 hw1 => (c_segment (es := [(⟨#[66, 70, 78, 58]⟩ : ByteArray) ++ itoaS o.fund]) (D := fun _ => True) ⟨#[82, 70, 70]⟩ w1 (rowS_rd (e := 9) (r := some (p34, [Value.string ((⟨#[66, 70, 78, 58]⟩ : ByteArray) ++ itoaS o.fund)], 1)) (n := 1) (rowOK_lit rfl (by decide)) rfl (fun s hs => ok_of (z34 s hs)) hw1 (fun q hq => by rw [List.mem_singleton.1 hq]; exact (by repeat (first | exact List.Mem.head _ | apply List.Mem.tail))) (fun _ _ => trivial)) (fun s hs => Nat.le_trans (z34 s hs) (by decide)) (by show 1 ≤ 1000; decide) (hL.later (hw1.base (by simp)))).mono fun e w2 ⟨u, h1, h2, h3⟩ => seg_out h1 h2 h3) ?_
                            intro v35 wa35 wb35 hm35 hl35 hR35
                            obtain ⟨A35, c35, rfl, hs35⟩ := hR35
                            refine x_end ?_
                            refine t_gr (Q := fun _ _ _ => False) ?_ t_nil
                            refine x_buildSliceL (cs := [Value.string (⟨#[55]⟩), Value.string (⟨#[49]⟩)]) rfl rfl rfl Tryd.underlying25 sz9 zr9 rfl rfl rfl ?_
                            intro p36
                            refine x_end ?_
                            refine t_gr (Q := fun _ _ _ => False) ?_ t_nil
                            refine x_call (R := fun v wa wb => ∃ A c, v = .agg #[.string ⟨#[85, 78, 84]⟩, .slice A 2 c] ∧ sliceRd (tySlice tyStr) (fun b => wa.heap.size ≤ b) wb (.slice A 2 c) [splitC (⟨#[55]⟩), splitC (⟨#[49]⟩)]) rfl rfl rfl Tryd.func31 (by kernel_rfl) rfl (fun w1 hw1 => (c_segment (es := [⟨#[55]⟩, ⟨#[49]⟩]) (D := fun _ => True) ⟨#[85, 78, 84]⟩ w1 (rowS_rd (e := 9) (r := some (p36, [Value.string (⟨#[55]⟩), Value.string (⟨#[49]⟩)], 2)) (n := 2) (rowOK_lit rfl (by decide)) rfl (fun s hs => ok_of (z36 s hs)) hw1 (fun q hq => by rw [List.mem_singleton.1 hq]; exact (by repeat (first | exact List.Mem.head _ | apply List.Mem.tail))) (fun _ _ => trivial)) (fun s hs => Nat.le_trans (z36 s hs) (by decide)) (by show 2 ≤ 1000; decide) (hL.later (hw1.base (by simp)))).mono fun e w2 ⟨u, h1, h2, h3⟩ => seg_out h1 h2 h3) ?_
                            intro v37 wa37 wb37 hm37 hl37 hR37
                            obtain ⟨A37, c37, rfl, hs37⟩ := hR37
                            refine x_end ?_
                            refine t_gr (Q := fun _ _ _ => False) ?_ t_nil
                            refine x_buildSliceL (cs := ([[Value.string ⟨#[85, 78, 72]⟩, .slice A7 2 c7], [Value.string ⟨#[66, 71, 77]⟩, .slice A12 2 c12], [Value.string ⟨#[76, 73, 78]⟩, .slice A17 3 c17], [Value.string ⟨#[81, 84, 89]⟩, .slice A23 1 c23], [Value.string ⟨#[80, 82, 73]⟩, .slice A29 1 c29], [Value.string ⟨#[82, 70, 70]⟩, .slice A35 1 c35], [Value.string ⟨#[85, 78, 84]⟩, .slice A37 2 c37]] : List (List Value)).flatten) rfl rfl rfl Tryd.underlying26 sz40 zr40 rfl rfl rfl ?_
                            intro p38
                            refine x_end ?_
                            refine t_flt (Q := fun _ _ _ => False) ?_
                            refine x_val rfl rfl rfl (v_assign rfl) ?_
                            refine x_end ?_
                            refine t_done ?_
                            refine x_end ?_
                            refine t_norm ?_
                            refine w_ret ?_
                            refine ret1 rfl rfl (fun w' hm => ?_)
                            rw [show orderR o = orderP o from by unfold orderR; rw [if_pos hw]]
                            exact ⟨_, rfl, hm.base (by simp), RdAll.rd (e := 40) (css := [[Value.string ⟨#[85, 78, 72]⟩, .slice A7 2 c7], [Value.string ⟨#[66, 71, 77]⟩, .slice A12 2 c12], [Value.string ⟨#[76, 73, 78]⟩, .slice A17 3 c17], [Value.string ⟨#[81, 84, 89]⟩, .slice A23 1 c23], [Value.string ⟨#[80, 82, 73]⟩, .slice A29 1 c29], [Value.string ⟨#[82, 70, 70]⟩, .slice A35 1 c35], [Value.string ⟨#[85, 78, 84]⟩, .slice A37 2 c37]]) (xs := orderP o) (.cons (tySeg_mk (x := ⟨⟨#[85, 78, 72]⟩, [splitC (⟨#[49]⟩), splitC (⟨#[79, 82, 68, 69, 82, 83, 58, 68, 58, 57, 54, 65, 58, 85, 78]⟩)]⟩) rfl (show (3 : Nat) ≤ 9223372036854775807 by decide) (hs7.keep (Kept.made hm (by repeat (first | exact List.Mem.head _ | apply List.Mem.tail)) hm7 (hm7.base (by simp)).size))) (.cons (tySeg_mk (x := ⟨⟨#[66, 71, 77]⟩, [splitC (⟨#[50, 50, 48]⟩), splitC (itoaS o.id)]⟩) rfl (show (3 : Nat) ≤ 9223372036854775807 by decide) (hs12.keep (Kept.made hm (by repeat (first | exact List.Mem.head _ | apply List.Mem.tail)) hm12 (hm12.base (by simp)).size))) (.cons (tySeg_mk (x := ⟨⟨#[76, 73, 78]⟩, [splitC (⟨#[49]⟩), splitC (⟨#[]⟩), splitC (artS o.src o.num)]⟩) rfl (show (3 : Nat) ≤ 9223372036854775807 by decide) (hs17.keep (Kept.made hm (by repeat (first | exact List.Mem.head _ | apply List.Mem.tail)) hm17 (hm17.base (by simp)).size))) (.cons (tySeg_mk (x := ⟨⟨#[81, 84, 89]⟩, [splitC ((⟨#[50, 49, 58]⟩ : ByteArray) ++ itoaS o.copies)]⟩) rfl (show (3 : Nat) ≤ 9223372036854775807 by decide) (hs23.keep (Kept.made hm (by repeat (first | exact List.Mem.head _ | apply List.Mem.tail)) hm23 (hm23.base (by simp)).size))) (.cons (tySeg_mk (x := ⟨⟨#[80, 82, 73]⟩, [splitC ((⟨#[65, 65, 65, 58]⟩ : ByteArray) ++ itoaS o.price)]⟩) rfl (show (3 : Nat) ≤ 9223372036854775807 by decide) (hs29.keep (Kept.made hm (by repeat (first | exact List.Mem.head _ | apply List.Mem.tail)) hm29 (hm29.base (by simp)).size))) (.cons (tySeg_mk (x := ⟨⟨#[82, 70, 70]⟩, [splitC ((⟨#[66, 70, 78, 58]⟩ : ByteArray) ++ itoaS o.fund)]⟩) rfl (show (3 : Nat) ≤ 9223372036854775807 by decide) (hs35.keep (Kept.made hm (by repeat (first | exact List.Mem.head _ | apply List.Mem.tail)) hm35 (hm35.base (by simp)).size))) (.cons (tySeg_mk (x := ⟨⟨#[85, 78, 84]⟩, [splitC (⟨#[55]⟩), splitC (⟨#[49]⟩)]⟩) rfl (show (3 : Nat) ≤ 9223372036854775807 by decide) (hs37.keep (Kept.made hm (by repeat (first | exact List.Mem.head _ | apply List.Mem.tail)) hm37 (hm37.base (by simp)).size))) (.nil)))))))) hm (.head _) (by repeat (first | exact List.Mem.head _ | apply List.Mem.tail)) rfl (show (7 : Nat) ≤ maxLen by decide)⟩
                          refine t_gr (Q := fun _ _ _ => False) ?_ t_nil
                          refine x_buildSliceL (cs := [Value.string (⟨#[55]⟩), Value.string (⟨#[49]⟩)]) rfl rfl rfl Tryd.underlying25 sz9 zr9 rfl rfl rfl ?_
                          intro p36
                          refine x_end ?_
                          refine t_gr (Q := fun _ _ _ => False) ?_ t_nil
                          refine x_call (R := fun v wa wb => ∃ A c, v = .agg #[.string ⟨#[82, 70, 70]⟩, .slice A 1 c] ∧ sliceRd (tySlice tyStr) (fun b => wa.heap.size ≤ b) wb (.slice A 1 c) [splitC ((⟨#[66, 70, 78, 58]⟩ : ByteArray) ++ itoaS o.fund)]) rfl rfl rfl Tryd.func31 (by kernel_rfl) rfl (fun w1 hw1 => (c_segment (es := [(⟨#[66, 70, 78, 58]⟩ : ByteArray) ++ itoaS o.fund]) (D := fun _ => True) ⟨#[82, 70, 70]⟩ w1 (rowS_rd (e := 9) (r := some (p34, [Value.string ((⟨#[66, 70, 78, 58]⟩ : ByteArray) ++ itoaS o.fund)], 1)) (n := 1) (rowOK_lit rfl (by decide)) rfl (fun s hs => ok_of (z34 s hs)) hw1 (fun q hq => by rw [List.mem_singleton.1 hq]; exact (by repeat (first | exact List.Mem.head _ | apply List.Mem.tail))) (fun _ _ => trivial)) (fun s hs => Nat.le_trans (z34 s hs) (by decide)) (by show 1 ≤ 1000; decide) (hL.later (hw1.base (by simp)))).mono fun e w2 ⟨u, h1, h2, h3⟩ => seg_out h1 h2 h3) ?_
                          intro v35 wa35 wb35 hm35 hl35 hR35
                          obtain ⟨A35, c35, rfl, hs35⟩ := hR35
                          refine x_end ?_
                          refine t_gr (Q := fun _ _ _ => False) ?_ t_nil
                          refine x_call (R := fun v wa wb => ∃ A c, v = .agg #[.string ⟨#[85, 78, 84]⟩, .slice A 2 c] ∧ sliceRd (tySlice tyStr) (fun b => wa.heap.size ≤ b) wb (.slice A 2 c) [splitC (⟨#[55]⟩), splitC (⟨#[49]⟩)]) rfl rfl rfl Tryd.func31 (by kernel_rfl) rfl (fun w1 hw1 => (c_segment (es := [⟨#[55]⟩, ⟨#[49]⟩]) (D := fun _ => True) ⟨#[85, 78, 84]⟩ w1 (rowS_rd (e := 9) (r := some (p36, [Value.string (⟨#[55]⟩), Value.string (⟨#[49]⟩)], 2)) (n := 2) (rowOK_lit rfl (by decide)) rfl (fun s hs => ok_of (z36 s hs)) hw1 (fun q hq => by rw [List.mem_singleton.1 hq]; exact (by repeat (first | exact List.Mem.head _ | apply List.Mem.tail))) (fun _ _ => trivial)) (fun s hs => Nat.le_trans (z36 s hs) (by decide)) (by show 2 ≤ 1000; decide) (hL.later (hw1.base (by simp)))).mono fun e w2 ⟨u, h1, h2, h3⟩ => seg_out h1 h2 h3) ?_
                          intro v37 wa37 wb37 hm37 hl37 hR37
                          obtain ⟨A37, c37, rfl, hs37⟩ := hR37
                          refine x_end ?_
                          refine t_gr (Q := fun _ _ _ => False) ?_ t_nil
                          refine x_buildSliceL (cs := ([[Value.string ⟨#[85, 78, 72]⟩, .slice A7 2 c7], [Value.string ⟨#[66, 71, 77]⟩, .slice A12 2 c12], [Value.string ⟨#[76, 73, 78]⟩, .slice A17 3 c17], [Value.string ⟨#[81, 84, 89]⟩, .slice A23 1 c23], [Value.string ⟨#[80, 82, 73]⟩, .slice A29 1 c29], [Value.string ⟨#[82, 70, 70]⟩, .slice A35 1 c35], [Value.string ⟨#[85, 78, 84]⟩, .slice A37 2 c37]] : List (List Value)).flatten) rfl rfl rfl Tryd.underlying26 sz40 zr40 rfl rfl rfl ?_
                          intro p38
                          refine x_end ?_
                          refine t_flt (Q := fun _ _ _ => False) ?_
                          refine x_val rfl rfl rfl (v_assign rfl) ?_
                          refine x_end ?_
                          refine t_done ?_
                          refine x_end ?_
                          refine t_norm ?_
                          refine w_ret ?_
                          refine ret1 rfl rfl (fun w' hm => ?_)
                          rw [show orderR o = orderP o from by unfold orderR; rw [if_pos hw]]
                          exact ⟨_, rfl, hm.base (by simp), RdAll.rd (e := 40) (css := [[Value.string ⟨#[85, 78, 72]⟩, .slice A7 2 c7], [Value.string ⟨#[66, 71, 77]⟩, .slice A12 2 c12], [Value.string ⟨#[76, 73, 78]⟩, .slice A17 3 c17], [Value.string ⟨#[81, 84, 89]⟩, .slice A23 1 c23], [Value.string ⟨#[80, 82, 73]⟩, .slice A29 1 c29], [Value.string ⟨#[82, 70, 70]⟩, .slice A35 1 c35], [Value.string ⟨#[85, 78, 84]⟩, .slice A37 2 c37]]) (xs := orderP o) (.cons (tySeg_mk (x := ⟨⟨#[85, 78, 72]⟩, [splitC (⟨#[49]⟩), splitC (⟨#[79, 82, 68, 69, 82, 83, 58, 68, 58, 57, 54, 65, 58, 85, 78]⟩)]⟩) rfl (show (3 : Nat) ≤ 9223372036854775807 by decide) (hs7.keep (Kept.made hm (by repeat (first | exact List.Mem.head _ | apply List.Mem.tail)) hm7 (hm7.base (by simp)).size))) (.cons (tySeg_mk (x := ⟨⟨#[66, 71, 77]⟩, [splitC (⟨#[50, 50, 48]⟩), splitC (itoaS o.id)]⟩) rfl (show (3 : Nat) ≤ 9223372036854775807 by decide) (hs12.keep (Kept.made hm (by repeat (first | exact List.Mem.head _ | apply List.Mem.tail)) hm12 (hm12.base (by simp)).size))) (.cons (tySeg_mk (x := ⟨⟨#[76, 73, 78]⟩, [splitC (⟨#[49]⟩), splitC (⟨#[]⟩), splitC (artS o.src o.num)]⟩) rfl (show (3 : Nat) ≤ 9223372036854775807 by decide) (hs17.keep (Kept.made hm (by repeat (first | exact List.Mem.head _ | apply List.Mem.tail)) hm17 (hm17.base (by simp)).size))) (.cons (tySeg_mk (x := ⟨⟨#[81, 84, 89]⟩, [splitC ((⟨#[50, 49, 58]⟩ : ByteArray) ++ itoaS o.copies)]⟩) rfl (show (3 : Nat) ≤ 9223372036854775807 by decide) (hs23.keep (Kept.made hm (by repeat (first | exact List.Mem.head _ | apply List.Mem.tail)) hm23 (hm23.base (by simp)).size))) (.cons (tySeg_mk (x := ⟨⟨#[80, 82, 73]⟩, [splitC ((⟨#[65, 65, 65, 58]⟩ : ByteArray) ++ itoaS o.price)]⟩) rfl (show (3 : Nat) ≤ 9223372036854775807 by decide) (hs29.keep (Kept.made hm (by repeat (first | exact List.Mem.head _ | apply List.Mem.tail)) hm29 (hm29.base (by simp)).size))) (.cons (tySeg_mk (x := ⟨⟨#[82, 70, 70]⟩, [splitC ((⟨#[66, 70, 78, 58]⟩ : ByteArray) ++ itoaS o.fund)]⟩) rfl (show (3 : Nat) ≤ 9223372036854775807 by decide) (hs35.keep (Kept.made hm (by repeat (first | exact List.Mem.head _ | apply List.Mem.tail)) hm35 (hm35.base (by simp)).size))) (.cons (tySeg_mk (x := ⟨⟨#[85, 78, 84]⟩, [splitC (⟨#[55]⟩), splitC (⟨#[49]⟩)]⟩) rfl (show (3 : Nat) ≤ 9223372036854775807 by decide) (hs37.keep (Kept.made hm (by repeat (first | exact List.Mem.head _ | apply List.Mem.tail)) hm37 (hm37.base (by simp)).size))) (.nil)))))))) hm (.head _) (by repeat (first | exact List.Mem.head _ | apply List.Mem.tail)) rfl (show (7 : Nat) ≤ maxLen by decide)⟩
                        refine t_gr (Q := fun _ _ _ => False) ?_ t_nil
                        refine x_buildSliceL (cs := [Value.string (⟨#[55]⟩), Value.string (⟨#[49]⟩)]) rfl rfl rfl Tryd.underlying25 sz9 zr9 rfl rfl rfl ?_
                        intro p36
                        refine x_end ?_
                        refine t_gr (Q := fun _ _ _ => False) ?_ t_nil
                        refine x_buildSliceL (cs := [Value.string ((⟨#[66, 70, 78, 58]⟩ : ByteArray) ++ itoaS o.fund)]) rfl rfl rfl Tryd.underlying25 sz9 zr9 rfl rfl rfl ?_
                        intro p34
                        refine x_end ?_
                        refine t_gr (Q := fun _ _ _ => False) ?_ t_nil
                        refine x_call (R := fun v wa wb => ∃ A c, v = .agg #[.string ⟨#[82, 70, 70]⟩, .slice A 1 c] ∧ sliceRd (tySlice tyStr) (fun b => wa.heap.size ≤ b) wb (.slice A 1 c) [splitC ((⟨#[66, 70, 78, 58]⟩ : ByteArray) ++ itoaS o.fund)]) rfl rfl rfl Tryd.func31 (by kernel_rfl) rfl (fun w1 hw1 => (c_segment (es := [(⟨#[66, 70, 78, 58]⟩ : ByteArray) ++ itoaS o.fund]) (D := fun _ => True) ⟨#[82, 70, 70]⟩ w1 (rowS_rd (e := 9) (r := some (p34, [Value.string ((⟨#[66, 70, 78, 58]⟩ : ByteArray) ++ itoaS o.fund)], 1)) (n := 1) (rowOK_lit rfl (by decide)) rfl (fun s hs => ok_of (z34 s hs)) hw1 (fun q hq => by rw [List.mem_singleton.1 hq]; exact (by repeat (first | exact List.Mem.head _ | apply List.Mem.tail))) (fun _ _ => trivial)) (fun s hs => Nat.le_trans (z34 s hs) (by decide)) (by show 1 ≤ 1000; decide) (hL.later (hw1.base (by simp)))).mono fun e w2 ⟨u, h1, h2, h3⟩ => seg_out h1 h2 h3) ?_
                        intro v35 wa35 wb35 hm35 hl35 hR35
                        obtain ⟨A35, c35, rfl, hs35⟩ := hR35
                        refine x_end ?_
                        refine t_gr (Q := fun _ _ _ => False) ?_ t_nil
                        refine x_call (R := fun v wa wb => ∃ A c, v = .agg #[.string ⟨#[85, 78, 84]⟩, .slice A 2 c] ∧ sliceRd (tySlice tyStr) (fun b => wa.heap.size ≤ b) wb (.slice A 2 c) [splitC (⟨#[55]⟩), splitC (⟨#[49]⟩)]) rfl rfl rfl Tryd.func31 (by kernel_rfl) rfl (fun w1 hw1 => (c_segment (es := [⟨#[55]⟩, ⟨#[49]⟩]) (D := fun _ => True) ⟨#[85, 78, 84]⟩ w1 (rowS_rd (e := 9) (r := some (p36, [Value.string (⟨#[55]⟩), Value.string (⟨#[49]⟩)], 2)) (n := 2) (rowOK_lit rfl (by decide)) rfl (fun s hs => ok_of (z36 s hs)) hw1 (fun q hq => by rw [List.mem_singleton.1 hq]; exact (by repeat (first | exact List.Mem.head _ | apply List.Mem.tail))) (fun _ _ => trivial)) (fun s hs => Nat.le_trans (z36 s hs) (by decide)) (by show 2 ≤ 1000; decide) (hL.later (hw1.base (by simp)))).mono fun e w2 ⟨u, h1, h2, h3⟩ => seg_out h1 h2 h3) ?_
                        intro v37 wa37 wb37 hm37 hl37 hR37
                        obtain ⟨A37, c37, rfl, hs37⟩ := hR37
                        refine x_end ?_
                        refine t_gr (Q := fun _ _ _ => False) ?_ t_nil
                        refine x_buildSliceL (cs := ([[Value.string ⟨#[85, 78, 72]⟩, .slice A7 2 c7], [Value.string ⟨#[66, 71, 77]⟩, .slice A12 2 c12], [Value.string ⟨#[76, 73, 78]⟩, .slice A17 3 c17], [Value.string ⟨#[81, 84, 89]⟩, .slice A23 1 c23], [Value.string ⟨#[80, 82, 73]⟩, .slice A29 1 c29], [Value.string ⟨#[82, 70, 70]⟩, .slice A35 1 c35], [Value.string ⟨#[85, 78, 84]⟩, .slice A37 2 c37]] : List (List Value)).flatten) rfl rfl rfl Tryd.underlying26 sz40 zr40 rfl rfl rfl ?_
                        intro p38
                        refine x_end ?_
                        refine t_flt (Q := fun _ _ _ => False) ?_
                        refine x_val rfl rfl rfl (v_assign rfl) ?_
                        refine x_end ?_
                        refine t_done ?_
                        refine x_end ?_
                        refine t_norm ?_
                        refine w_ret ?_
                        refine ret1 rfl rfl (fun w' hm => ?_)
                        rw [show orderR o = orderP o from by unfold orderR; rw [if_pos hw]]
                        exact ⟨_, rfl, hm.base (by simp), RdAll.rd (e := 40) (css := [[Value.string ⟨#[85, 78, 72]⟩, .slice A7 2 c7], [Value.string ⟨#[66, 71, 77]⟩, .slice A12 2 c12], [Value.string ⟨#[76, 73, 78]⟩, .slice A17 3 c17], [Value.string ⟨#[81, 84, 89]⟩, .slice A23 1 c23], [Value.string ⟨#[80, 82, 73]⟩, .slice A29 1 c29], [Value.string ⟨#[82, 70, 70]⟩, .slice A35 1 c35], [Value.string ⟨#[85, 78, 84]⟩, .slice A37 2 c37]]) (xs := orderP o) (.cons (tySeg_mk (x := ⟨⟨#[85, 78, 72]⟩, [splitC (⟨#[49]⟩), splitC (⟨#[79, 82, 68, 69, 82, 83, 58, 68, 58, 57, 54, 65, 58, 85, 78]⟩)]⟩) rfl (show (3 : Nat) ≤ 9223372036854775807 by decide) (hs7.keep (Kept.made hm (by repeat (first | exact List.Mem.head _ | apply List.Mem.tail)) hm7 (hm7.base (by simp)).size))) (.cons (tySeg_mk (x := ⟨⟨#[66, 71, 77]⟩, [splitC (⟨#[50, 50, 48]⟩), splitC (itoaS o.id)]⟩) rfl (show (3 : Nat) ≤ 9223372036854775807 by decide) (hs12.keep (Kept.made hm (by repeat (first | exact List.Mem.head _ | apply List.Mem.tail)) hm12 (hm12.base (by simp)).size))) (.cons (tySeg_mk (x := ⟨⟨#[76, 73, 78]⟩, [splitC (⟨#[49]⟩), splitC (⟨#[]⟩), splitC (artS o.src o.num)]⟩) rfl (show (3 : Nat) ≤ 9223372036854775807 by decide) (hs17.keep (Kept.made hm (by repeat (first | exact List.Mem.head _ | apply List.Mem.tail)) hm17 (hm17.base (by simp)).size))) (.cons (tySeg_mk (x := ⟨⟨#[81, 84, 89]⟩, [splitC ((⟨#[50, 49, 58]⟩ : ByteArray) ++ itoaS o.copies)]⟩) rfl (show (3 : Nat) ≤ 9223372036854775807 by decide) (hs23.keep (Kept.made hm (by repeat (first | exact List.Mem.head _ | apply List.Mem.tail)) hm23 (hm23.base (by simp)).size))) (.cons (tySeg_mk (x := ⟨⟨#[80, 82, 73]⟩, [splitC ((⟨#[65, 65, 65, 58]⟩ : ByteArray) ++ itoaS o.price)]⟩) rfl (show (3 : Nat) ≤ 9223372036854775807 by decide) (hs29.keep (Kept.made hm (by repeat (first | exact List.Mem.head _ | apply List.Mem.tail)) hm29 (hm29.base (by simp)).size))) (.cons (tySeg_mk (x := ⟨⟨#[82, 70, 70]⟩, [splitC ((⟨#[66, 70, 78, 58]⟩ : ByteArray) ++ itoaS o.fund)]⟩) rfl (show (3 : Nat) ≤ 9223372036854775807 by decide) (hs35.keep (Kept.made hm (by repeat (first | exact List.Mem.head _ | apply List.Mem.tail)) hm35 (hm35.base (by simp)).size))) (.cons (tySeg_mk (x := ⟨⟨#[85, 78, 84]⟩, [splitC (⟨#[55]⟩), splitC (⟨#[49]⟩)]⟩) rfl (show (3 : Nat) ≤ 9223372036854775807 by decide) (hs37.keep (Kept.made hm (by repeat (first | exact List.Mem.head _ | apply List.Mem.tail)) hm37 (hm37.base (by simp)).size))) (.nil)))))))) hm (.head _) (by repeat (first | exact List.Mem.head _ | apply List.Mem.tail)) rfl (show (7 : Nat) ≤ maxLen by decide)⟩
                      refine t_gr (Q := fun _ _ _ => False) ?_ t_nil
                      refine x_buildSliceL (cs := [Value.string (⟨#[55]⟩), Value.string (⟨#[49]⟩)]) rfl rfl rfl Tryd.underlying25 sz9 zr9 rfl rfl rfl ?_
                      intro p36
                      refine x_end ?_
                      refine t_gr (Q := fun _ _ _ => False) ?_ t_nil
                      refine x_call (R := fun v wa wb => ∃ A c, v = .agg #[.string ⟨#[80, 82, 73]⟩, .slice A 1 c] ∧ sliceRd (tySlice tyStr) (fun b => wa.heap.size ≤ b) wb (.slice A 1 c) [splitC ((⟨#[65, 65, 65, 58]⟩ : ByteArray) ++ itoaS o.price)]) rfl rfl rfl Tryd.func31 (by kernel_rfl) rfl (fun w1 hw1 => (c_segment (es := [(⟨#[65, 65, 65, 58]⟩ : ByteArray) ++ itoaS o.price]) (D := fun _ => True) ⟨#[80, 82, 73]⟩ w1 (rowS_rd (e := 9) (r := some (p28, [Value.string ((⟨#[65, 65, 65, 58]⟩ : ByteArray) ++ itoaS o.price)], 1)) (n := 1) (rowOK_lit rfl (by decide)) rfl (fun s hs => ok_of (z28 s hs)) hw1 (fun q hq => by rw [List.mem_singleton.1 hq]; exact (by repeat (first | exact List.Mem.head _ | apply List.Mem.tail))) (fun _ _ => trivial)) (fun s hs => Nat.le_trans (z28 s hs) (by decide)) (by show 1 ≤ 1000; decide) (hL.later (hw1.base (by simp)))).mono fun e w2 ⟨u, h1, h2, h3⟩ => seg_out h1 h2 h3) ?_
                      intro v29 wa29 wb29 hm29 hl29 hR29
                      obtain ⟨A29, c29, rfl, hs29⟩ := hR29
                      refine x_end ?_
                      refine t_flt (Q := fun _ _ _ => False) ?_
                      refine x_callv rfl rfl rfl Tryd.func32 (by kernel_rfl) rfl (fun w1 hw1 => c_number o.fund w1 hok.2.1 (hL.later (hw1.base (by simp)))) ?_
                      refine x_end ?_
                      refine t_flt (Q := fun _ _ _ => False) ?_
                      refine x_val rfl rfl rfl (v_sadd rfl rfl (by show 4 + (itoaS _).size ≤ _; omega)) ?_
                      refine x_end ?_
                      refine t_gr (Q := fun _ _ _ => False) ?_ t_nil
                      refine x_buildSliceL (cs := [Value.string ((⟨#[66, 70, 78, 58]⟩ : ByteArray) ++ itoaS o.fund)]) rfl rfl rfl Tryd.underlying25 sz9 zr9 rfl rfl rfl ?_
                      intro p34
                      refine x_end ?_
                      refine t_gr (Q := fun _ _ _ => False) ?_ t_nil
                      refine x_call (R := fun v wa wb => ∃ A c, v = .agg #[.string ⟨#[82, 70, 70]⟩, .slice A 1 c] ∧ sliceRd (tySlice tyStr) (fun b => wa.heap.size ≤ b) wb (.slice A 1 c) [splitC ((⟨#[66, 70, 78, 58]⟩ : ByteArray) ++ itoaS o.fund)]) rfl rfl rfl Tryd.func31 (by kernel_rfl) rfl (fun w1 hw1 => (c_segment (es := [(⟨#[66, 70, 78, 58]⟩ : ByteArray) ++ itoaS o.fund]) (D := fun _ => True) ⟨#[82, 70, 70]⟩ w1 (rowS_rd (e := 9) (r := some (p34, [Value.string ((⟨#[66, 70, 78, 58]⟩ : ByteArray) ++ itoaS o.fund)], 1)) (n := 1) (rowOK_lit rfl (by decide)) rfl (fun s hs => ok_of (z34 s hs)) hw1 (fun q hq => by rw [List.mem_singleton.1 hq]; exact (by repeat (first | exact List.Mem.head _ | apply List.Mem.tail))) (fun _ _ => trivial)) (fun s hs => Nat.le_trans (z34 s hs) (by decide)) (by show 1 ≤ 1000; decide) (hL.later (hw1.base (by simp)))).mono fun e w2 ⟨u, h1, h2, h3⟩ => seg_out h1 h2 h3) ?_
                      intro v35 wa35 wb35 hm35 hl35 hR35
                      obtain ⟨A35, c35, rfl, hs35⟩ := hR35
                      refine x_end ?_
                      refine t_gr (Q := fun _ _ _ => False) ?_ t_nil
                      refine x_call (R := fun v wa wb => ∃ A c, v = .agg #[.string ⟨#[85, 78, 84]⟩, .slice A 2 c] ∧ sliceRd (tySlice tyStr) (fun b => wa.heap.size ≤ b) wb (.slice A 2 c) [splitC (⟨#[55]⟩), splitC (⟨#[49]⟩)]) rfl rfl rfl Tryd.func31 (by kernel_rfl) rfl (fun w1 hw1 => (c_segment (es := [⟨#[55]⟩, ⟨#[49]⟩]) (D := fun _ => True) ⟨#[85, 78, 84]⟩ w1 (rowS_rd (e := 9) (r := some (p36, [Value.string (⟨#[55]⟩), Value.string (⟨#[49]⟩)], 2)) (n := 2) (rowOK_lit rfl (by decide)) rfl (fun s hs => ok_of (z36 s hs)) hw1 (fun q hq => by rw [List.mem_singleton.1 hq]; exact (by repeat (first | exact List.Mem.head _ | apply List.Mem.tail))) (fun _ _ => trivial)) (fun s hs => Nat.le_trans (z36 s hs) (by decide)) (by show 2 ≤ 1000; decide) (hL.later (hw1.base (by simp)))).mono fun e w2 ⟨u, h1, h2, h3⟩ => seg_out h1 h2 h3) ?_
                      intro v37 wa37 wb37 hm37 hl37 hR37
                      obtain ⟨A37, c37, rfl, hs37⟩ := hR37
                      refine x_end ?_
                      refine t_gr (Q := fun _ _ _ => False) ?_ t_nil
                      refine x_buildSliceL (cs := ([[Value.string ⟨#[85, 78, 72]⟩, .slice A7 2 c7], [Value.string ⟨#[66, 71, 77]⟩, .slice A12 2 c12], [Value.string ⟨#[76, 73, 78]⟩, .slice A17 3 c17], [Value.string ⟨#[81, 84, 89]⟩, .slice A23 1 c23], [Value.string ⟨#[80, 82, 73]⟩, .slice A29 1 c29], [Value.string ⟨#[82, 70, 70]⟩, .slice A35 1 c35], [Value.string ⟨#[85, 78, 84]⟩, .slice A37 2 c37]] : List (List Value)).flatten) rfl rfl rfl Tryd.underlying26 sz40 zr40 rfl rfl rfl ?_
                      intro p38
                      refine x_end ?_
                      refine t_flt (Q := fun _ _ _ => False) ?_
                      refine x_val rfl rfl rfl (v_assign rfl) ?_
                      refine x_end ?_
                      refine t_done ?_
                      refine x_end ?_
                      refine t_norm ?_
                      refine w_ret ?_
                      refine ret1 rfl rfl (fun w' hm => ?_)
                      rw [show orderR o = orderP o from by unfold orderR; rw [if_pos hw]]
                      exact ⟨_, rfl, hm.base (by simp), RdAll.rd (e := 40) (css := [[Value.string ⟨#[85, 78, 72]⟩, .slice A7 2 c7], [Value.string ⟨#[66, 71, 77]⟩, .slice A12 2 c12], [Value.string ⟨#[76, 73, 78]⟩, .slice A17 3 c17], [Value.string ⟨#[81, 84, 89]⟩, .slice A23 1 c23], [Value.string ⟨#[80, 82, 73]⟩, .slice A29 1 c29], [Value.string ⟨#[82, 70, 70]⟩, .slice A35 1 c35], [Value.string ⟨#[85, 78, 84]⟩, .slice A37 2 c37]]) (xs := orderP o) (.cons (tySeg_mk (x := ⟨⟨#[85, 78, 72]⟩, [splitC (⟨#[49]⟩), splitC (⟨#[79, 82, 68, 69, 82, 83, 58, 68, 58, 57, 54, 65, 58, 85, 78]⟩)]⟩) rfl (show (3 : Nat) ≤ 9223372036854775807 by decide) (hs7.keep (Kept.made hm (by repeat (first | exact List.Mem.head _ | apply List.Mem.tail)) hm7 (hm7.base (by simp)).size))) (.cons (tySeg_mk (x := ⟨⟨#[66, 71, 77]⟩, [splitC (⟨#[50, 50, 48]⟩), splitC (itoaS o.id)]⟩) rfl (show (3 : Nat) ≤ 9223372036854775807 by decide) (hs12.keep (Kept.made hm (by repeat (first | exact List.Mem.head _ | apply List.Mem.tail)) hm12 (hm12.base (by simp)).size))) (.cons (tySeg_mk (x := ⟨⟨#[76, 73, 78]⟩, [splitC (⟨#[49]⟩), splitC (⟨#[]⟩), splitC (artS o.src o.num)]⟩) rfl (show (3 : Nat) ≤ 9223372036854775807 by decide) (hs17.keep (Kept.made hm (by repeat (first | exact List.Mem.head _ | apply List.Mem.tail)) hm17 (hm17.base (by simp)).size))) (.cons (tySeg_mk (x := ⟨⟨#[81, 84, 89]⟩, [splitC ((⟨#[50, 49, 58]⟩ : ByteArray) ++ itoaS o.copies)]⟩) rfl (show (3 : Nat) ≤ 9223372036854775807 by decide) (hs23.keep (Kept.made hm (by repeat (first | exact List.Mem.head _ | apply List.Mem.tail)) hm23 (hm23.base (by simp)).size))) (.cons (tySeg_mk (x := ⟨⟨#[80, 82, 73]⟩, [splitC ((⟨#[65, 65, 65, 58]⟩ : ByteArray) ++ itoaS o.price)]⟩) rfl (show (3 : Nat) ≤ 9223372036854775807 by decide) (hs29.keep (Kept.made hm (by repeat (first | exact List.Mem.head _ | apply List.Mem.tail)) hm29 (hm29.base (by simp)).size))) (.cons (tySeg_mk (x := ⟨⟨#[82, 70, 70]⟩, [splitC ((⟨#[66, 70, 78, 58]⟩ : ByteArray) ++ itoaS o.fund)]⟩) rfl (show (3 : Nat) ≤ 9223372036854775807 by decide) (hs35.keep (Kept.made hm (by repeat (first | exact List.Mem.head _ | apply List.Mem.tail)) hm35 (hm35.base (by simp)).size))) (.cons (tySeg_mk (x := ⟨⟨#[85, 78, 84]⟩, [splitC (⟨#[55]⟩), splitC (⟨#[49]⟩)]⟩) rfl (show (3 : Nat) ≤ 9223372036854775807 by decide) (hs37.keep (Kept.made hm (by repeat (first | exact List.Mem.head _ | apply List.Mem.tail)) hm37 (hm37.base (by simp)).size))) (.nil)))))))) hm (.head _) (by repeat (first | exact List.Mem.head _ | apply List.Mem.tail)) rfl (show (7 : Nat) ≤ maxLen by decide)⟩
                    refine t_gr (Q := fun _ _ _ => False) ?_ t_nil
                    refine x_buildSliceL (cs := [Value.string (⟨#[55]⟩), Value.string (⟨#[49]⟩)]) rfl rfl rfl Tryd.underlying25 sz9 zr9 rfl rfl rfl ?_
                    intro p36
                    refine x_end ?_
                    refine t_gr (Q := fun _ _ _ => False) ?_ t_nil
                    refine x_buildSliceL (cs := [Value.string ((⟨#[65, 65, 65, 58]⟩ : ByteArray) ++ itoaS o.price)]) rfl rfl rfl Tryd.underlying25 sz9 zr9 rfl rfl rfl ?_
                    intro p28
                    refine x_end ?_
                    refine t_gr (Q := fun _ _ _ => False) ?_ t_nil
                    refine x_call (R := fun v wa wb => ∃ A c, v = .agg #[.string ⟨#[80, 82, 73]⟩, .slice A 1 c] ∧ sliceRd (tySlice tyStr) (fun b => wa.heap.size ≤ b) wb (.slice A 1 c) [splitC ((⟨#[65, 65, 65, 58]⟩ : ByteArray) ++ itoaS o.price)]) rfl rfl rfl Tryd.func31 (by kernel_rfl) rfl (fun w1 hw1 => (c_segment (es := [(⟨#[65, 65, 65, 58]⟩ : ByteArray) ++ itoaS o.price]) (D := fun _ => True) ⟨#[80, 82, 73]⟩ w1 (rowS_rd (e := 9) (r := some (p28, [Value.string ((⟨#[65, 65, 65, 58]⟩ : ByteArray) ++ itoaS o.price)], 1)) (n := 1) (rowOK_lit rfl (by decide)) rfl (fun s hs => ok_of (z28 s hs)) hw1 (fun q hq => by rw [List.mem_singleton.1 hq]; exact (by repeat (first | exact List.Mem.head _ | apply List.Mem.tail))) (fun _ _ => trivial)) (fun s hs => Nat.le_trans (z28 s hs) (by decide)) (by show 1 ≤ 1000; decide) (hL.later (hw1.base (by simp)))).mono fun e w2 ⟨u, h1, h2, h3⟩ => seg_out h1 h2 h3) ?_
                    intro v29 wa29 wb29 hm29 hl29 hR29
                    obtain ⟨A29, c29, rfl, hs29⟩ := hR29
                    refine x_end ?_
                    refine t_flt (Q := fun _ _ _ => False) ?_
                    refine x_callv rfl rfl rfl Tryd.func32 (by kernel_rfl) rfl (fun w1 hw1 => c_number o.fund w1 hok.2.1 (hL.later (hw1.base (by simp)))) ?_
                    refine x_end ?_
                    refine t_flt (Q := fun _ _ _ => False) ?_
                    refine x_val rfl rfl rfl (v_sadd rfl rfl (by show 4 + (itoaS _).size ≤ _; omega)) ?_
                    refine x_end ?_
                    refine t_gr (Q := fun _ _ _ => False) ?_ t_nil
                    refine x_buildSliceL (cs := [Value.string ((⟨#[66, 70, 78, 58]⟩ : ByteArray) ++ itoaS o.fund)]) rfl rfl rfl Tryd.underlying25 sz9 zr9 rfl rfl rfl ?_
                    intro p34
                    refine x_end ?_
                    refine t_gr (Q := fun _ _ _ => False) ?_ t_nil
                    refine x_call (R := fun v wa wb => ∃ A c, v = .agg #[.string ⟨#[82, 70, 70]⟩, .slice A 1 c] ∧ sliceRd (tySlice tyStr) (fun b => wa.heap.size ≤ b) wb (.slice A 1 c) [splitC ((⟨#[66, 70, 78, 58]⟩ : ByteArray) ++ itoaS o.fund)]) rfl rfl rfl Tryd.func31 (by kernel_rfl) rfl (fun w1 hw1 => (c_segment (es := [(⟨#[66, 70, 78, 58]⟩ : ByteArray) ++ itoaS o.fund]) (D := fun _ => True) ⟨#[82, 70, 70]⟩ w1 (rowS_rd (e := 9) (r := some (p34, [Value.string ((⟨#[66, 70, 78, 58]⟩ : ByteArray) ++ itoaS o.fund)], 1)) (n := 1) (rowOK_lit rfl (by decide)) rfl (fun s hs => ok_of (z34 s hs)) hw1 (fun q hq => by rw [List.mem_singleton.1 hq]; exact (by repeat (first | exact List.Mem.head _ | apply List.Mem.tail))) (fun _ _ => trivial)) (fun s hs => Nat.le_trans (z34 s hs) (by decide)) (by show 1 ≤ 1000; decide) (hL.later (hw1.base (by simp)))).mono fun e w2 ⟨u, h1, h2, h3⟩ => seg_out h1 h2 h3) ?_
                    intro v35 wa35 wb35 hm35 hl35 hR35
                    obtain ⟨A35, c35, rfl, hs35⟩ := hR35
                    refine x_end ?_
                    refine t_gr (Q := fun _ _ _ => False) ?_ t_nil
                    refine x_call (R := fun v wa wb => ∃ A c, v = .agg #[.string ⟨#[85, 78, 84]⟩, .slice A 2 c] ∧ sliceRd (tySlice tyStr) (fun b => wa.heap.size ≤ b) wb (.slice A 2 c) [splitC (⟨#[55]⟩), splitC (⟨#[49]⟩)]) rfl rfl rfl Tryd.func31 (by kernel_rfl) rfl (fun w1 hw1 => (c_segment (es := [⟨#[55]⟩, ⟨#[49]⟩]) (D := fun _ => True) ⟨#[85, 78, 84]⟩ w1 (rowS_rd (e := 9) (r := some (p36, [Value.string (⟨#[55]⟩), Value.string (⟨#[49]⟩)], 2)) (n := 2) (rowOK_lit rfl (by decide)) rfl (fun s hs => ok_of (z36 s hs)) hw1 (fun q hq => by rw [List.mem_singleton.1 hq]; exact (by repeat (first | exact List.Mem.head _ | apply List.Mem.tail))) (fun _ _ => trivial)) (fun s hs => Nat.le_trans (z36 s hs) (by decide)) (by show 2 ≤ 1000; decide) (hL.later (hw1.base (by simp)))).mono fun e w2 ⟨u, h1, h2, h3⟩ => seg_out h1 h2 h3) ?_
                    intro v37 wa37 wb37 hm37 hl37 hR37
                    obtain ⟨A37, c37, rfl, hs37⟩ := hR37
                    refine x_end ?_
                    refine t_gr (Q := fun _ _ _ => False) ?_ t_nil
                    refine x_buildSliceL (cs := ([[Value.string ⟨#[85, 78, 72]⟩, .slice A7 2 c7], [Value.string ⟨#[66, 71, 77]⟩, .slice A12 2 c12], [Value.string ⟨#[76, 73, 78]⟩, .slice A17 3 c17], [Value.string ⟨#[81, 84, 89]⟩, .slice A23 1 c23], [Value.string ⟨#[80, 82, 73]⟩, .slice A29 1 c29], [Value.string ⟨#[82, 70, 70]⟩, .slice A35 1 c35], [Value.string ⟨#[85, 78, 84]⟩, .slice A37 2 c37]] : List (List Value)).flatten) rfl rfl rfl Tryd.underlying26 sz40 zr40 rfl rfl rfl ?_
                    intro p38
                    refine x_end ?_
                    refine t_flt (Q := fun _ _ _ => False) ?_
                    refine x_val rfl rfl rfl (v_assign rfl) ?_
                    refine x_end ?_
                    refine t_done ?_
                    refine x_end ?_
                    refine t_norm ?_
                    refine w_ret ?_
                    refine ret1 rfl rfl (fun w' hm => ?_)
                    rw [show orderR o = orderP o from by unfold orderR; rw [if_pos hw]]
                    exact ⟨_, rfl, hm.base (by simp), RdAll.rd (e := 40) (css := [[Value.string ⟨#[85, 78, 72]⟩, .slice A7 2 c7], [Value.string ⟨#[66, 71, 77]⟩, .slice A12 2 c12], [Value.string ⟨#[76, 73, 78]⟩, .slice A17 3 c17], [Value.string ⟨#[81, 84, 89]⟩, .slice A23 1 c23], [Value.string ⟨#[80, 82, 73]⟩, .slice A29 1 c29], [Value.string ⟨#[82, 70, 70]⟩, .slice A35 1 c35], [Value.string ⟨#[85, 78, 84]⟩, .slice A37 2 c37]]) (xs := orderP o) (.cons (tySeg_mk (x := ⟨⟨#[85, 78, 72]⟩, [splitC (⟨#[49]⟩), splitC (⟨#[79, 82, 68, 69, 82, 83, 58, 68, 58, 57, 54, 65, 58, 85, 78]⟩)]⟩) rfl (show (3 : Nat) ≤ 9223372036854775807 by decide) (hs7.keep (Kept.made hm (by repeat (first | exact List.Mem.head _ | apply List.Mem.tail)) hm7 (hm7.base (by simp)).size))) (.cons (tySeg_mk (x := ⟨⟨#[66, 71, 77]⟩, [splitC (⟨#[50, 50, 48]⟩), splitC (itoaS o.id)]⟩) rfl (show (3 : Nat) ≤ 9223372036854775807 by decide) (hs12.keep (Kept.made hm (by repeat (first | exact List.Mem.head _ | apply List.Mem.tail)) hm12 (hm12.base (by simp)).size))) (.cons (tySeg_mk (x := ⟨⟨#[76, 73, 78]⟩, [splitC (⟨#[49]⟩), splitC (⟨#[]⟩), splitC (artS o.src o.num)]⟩) rfl (show (3 : Nat) ≤ 9223372036854775807 by decide) (hs17.keep (Kept.made hm (by repeat (first | exact List.Mem.head _ | apply List.Mem.tail)) hm17 (hm17.base (by simp)).size))) (.cons (tySeg_mk (x := ⟨⟨#[81, 84, 89]⟩, [splitC ((⟨#[50, 49, 58]⟩ : ByteArray) ++ itoaS o.copies)]⟩) rfl (show (3 : Nat) ≤ 9223372036854775807 by decide) (hs23.keep (Kept.made hm (by repeat (first | exact List.Mem.head _ | apply List.Mem.tail)) hm23 (hm23.base (by simp)).size))) (.cons (tySeg_mk (x := ⟨⟨#[80, 82, 73]⟩, [splitC ((⟨#[65, 65, 65, 58]⟩ : ByteArray) ++ itoaS o.price)]⟩) rfl (show (3 : Nat) ≤ 9223372036854775807 by decide) (hs29.keep (Kept.made hm (by repeat (first | exact List.Mem.head _ | apply List.Mem.tail)) hm29 (hm29.base (by simp)).size))) (.cons (tySeg_mk (x := ⟨⟨#[82, 70, 70]⟩, [splitC ((⟨#[66, 70, 78, 58]⟩ : ByteArray) ++ itoaS o.fund)]⟩) rfl (show (3 : Nat) ≤ 9223372036854775807 by decide) (hs35.keep (Kept.made hm (by repeat (first | exact List.Mem.head _ | apply List.Mem.tail)) hm35 (hm35.base (by simp)).size))) (.cons (tySeg_mk (x := ⟨⟨#[85, 78, 84]⟩, [splitC (⟨#[55]⟩), splitC (⟨#[49]⟩)]⟩) rfl (show (3 : Nat) ≤ 9223372036854775807 by decide) (hs37.keep (Kept.made hm (by repeat (first | exact List.Mem.head _ | apply List.Mem.tail)) hm37 (hm37.base (by simp)).size))) (.nil)))))))) hm (.head _) (by repeat (first | exact List.Mem.head _ | apply List.Mem.tail)) rfl (show (7 : Nat) ≤ maxLen by decide)⟩
                  refine t_gr (Q := fun _ _ _ => False) ?_ t_nil
                  refine x_buildSliceL (cs := [Value.string (⟨#[55]⟩), Value.string (⟨#[49]⟩)]) rfl rfl rfl Tryd.underlying25 sz9 zr9 rfl rfl rfl ?_
                  intro p36
                  refine x_end ?_
                  refine t_gr (Q := fun _ _ _ => False) ?_ t_nil
                  refine x_call (R := fun v wa wb => ∃ A c, v = .agg #[.string ⟨#[81, 84, 89]⟩, .slice A 1 c] ∧ sliceRd (tySlice tyStr) (fun b => wa.heap.size ≤ b) wb (.slice A 1 c) [splitC ((⟨#[50, 49, 58]⟩ : ByteArray) ++ itoaS o.copies)]) rfl rfl rfl Tryd.func31 (by kernel_rfl) rfl (fun w1 hw1 => (c_segment (es := [(⟨#[50, 49, 58]⟩ : ByteArray) ++ itoaS o.copies]) (D := fun _ => True) ⟨#[81, 84, 89]⟩ w1 (rowS_rd (e := 9) (r := some (p22, [Value.string ((⟨#[50, 49, 58]⟩ : ByteArray) ++ itoaS o.copies)], 1)) (n := 1) (rowOK_lit rfl (by decide)) rfl (fun s hs => ok_of (z22 s hs)) hw1 (fun q hq => by rw [List.mem_singleton.1 hq]; exact (by repeat (first | exact List.Mem.head _ | apply List.Mem.tail))) (fun _ _ => trivial)) (fun s hs => Nat.le_trans (z22 s hs) (by decide)) (by show 1 ≤ 1000; decide) (hL.later (hw1.base (by simp)))).mono fun e w2 ⟨u, h1, h2, h3⟩ => seg_out h1 h2 h3) ?_
                  intro v23 wa23 wb23 hm23 hl23 hR23
                  obtain ⟨A23, c23, rfl, hs23⟩ := hR23
                  refine x_end ?_
                  refine t_flt (Q := fun _ _ _ => False) ?_
                  refine x_callv rfl rfl rfl Tryd.func32 (by kernel_rfl) rfl (fun w1 hw1 => c_number o.price w1 hok.2.2.2.2.2 (hL.later (hw1.base (by simp)))) ?_
                  refine x_end ?_
                  refine t_flt (Q := fun _ _ _ => False) ?_
                  refine x_val rfl rfl rfl (v_sadd rfl rfl (by show 4 + (itoaS _).size ≤ _; omega)) ?_
                  refine x_end ?_
                  refine t_gr (Q := fun _ _ _ => False) ?_ t_nil
                  refine x_buildSliceL (cs := [Value.string ((⟨#[65, 65, 65, 58]⟩ : ByteArray) ++ itoaS o.price)]) rfl rfl rfl Tryd.underlying25 sz9 zr9 rfl rfl rfl ?_
                  intro p28
                  refine x_end ?_
                  refine t_gr (Q := fun _ _ _ => False) ?_ t_nil
                  refine x_call (R := fun v wa wb => ∃ A c, v = .agg #[.string ⟨#[80, 82, 73]⟩, .slice A 1 c] ∧ sliceRd (tySlice tyStr) (fun b => wa.heap.size ≤ b) wb (.slice A 1 c) [splitC ((⟨#[65, 65, 65, 58]⟩ : ByteArray) ++ itoaS o.price)]) rfl rfl rfl Tryd.func31 (by kernel_rfl) rfl (fun w1 hw1 => (c_segment (es := [(⟨#[65, 65, 65, 58]⟩ : ByteArray) ++ itoaS o.price]) (D := fun _ => True) ⟨#[80, 82, 73]⟩ w1 (rowS_rd (e := 9) (r := some (p28, [Value.string ((⟨#[65, 65, 65, 58]⟩ : ByteArray) ++ itoaS o.price)], 1)) (n := 1) (rowOK_lit rfl (by decide)) rfl (fun s hs => ok_of (z28 s hs)) hw1 (fun q hq => by rw [List.mem_singleton.1 hq]; exact (by repeat (first | exact List.Mem.head _ | apply List.Mem.tail))) (fun _ _ => trivial)) (fun s hs => Nat.le_trans (z28 s hs) (by decide)) (by show 1 ≤ 1000; decide) (hL.later (hw1.base (by simp)))).mono fun e w2 ⟨u, h1, h2, h3⟩ => seg_out h1 h2 h3) ?_
                  intro v29 wa29 wb29 hm29 hl29 hR29
                  obtain ⟨A29, c29, rfl, hs29⟩ := hR29
                  refine x_end ?_
                  refine t_flt (Q := fun _ _ _ => False) ?_
                  refine x_callv rfl rfl rfl Tryd.func32 (by kernel_rfl) rfl (fun w1 hw1 => c_number o.fund w1 hok.2.1 (hL.later (hw1.base (by simp)))) ?_
                  refine x_end ?_
                  refine t_flt (Q := fun _ _ _ => False) ?_
                  refine x_val rfl rfl rfl (v_sadd rfl rfl (by show 4 + (itoaS _).size ≤ _; omega)) ?_
                  refine x_end ?_
                  refine t_gr (Q := fun _ _ _ => False) ?_ t_nil
                  refine x_buildSliceL (cs := [Value.string ((⟨#[66, 70, 78, 58]⟩ : ByteArray) ++ itoaS o.fund)]) rfl rfl rfl Tryd.underlying25 sz9 zr9 rfl rfl rfl ?_
                  intro p34
                  refine x_end ?_
                  refine t_gr (Q := fun _ _ _ => False) ?_ t_nil
                  refine x_call (R := fun v wa wb => ∃ A c, v = .agg #[.string ⟨#[82, 70, 70]⟩, .slice A 1 c] ∧ sliceRd (tySlice tyStr) (fun b => wa.heap.size ≤ b) wb (.slice A 1 c) [splitC ((⟨#[66, 70, 78, 58]⟩ : ByteArray) ++ itoaS o.fund)]) rfl rfl rfl Tryd.func31 (by kernel_rfl) rfl (fun w1 hw1 => (c_segment (es := [(⟨#[66, 70, 78, 58]⟩ : ByteArray) ++ itoaS o.fund]) (D := fun _ => True) ⟨#[82, 70, 70]⟩ w1 (rowS_rd (e := 9) (r := some (p34, [Value.string ((⟨#[66, 70, 78, 58]⟩ : ByteArray) ++ itoaS o.fund)], 1)) (n := 1) (rowOK_lit rfl (by decide)) rfl (fun s hs => ok_of (z34 s hs)) hw1 (fun q hq => by rw [List.mem_singleton.1 hq]; exact (by repeat (first | exact List.Mem.head _ | apply List.Mem.tail))) (fun _ _ => trivial)) (fun s hs => Nat.le_trans (z34 s hs) (by decide)) (by show 1 ≤ 1000; decide) (hL.later (hw1.base (by simp)))).mono fun e w2 ⟨u, h1, h2, h3⟩ => seg_out h1 h2 h3) ?_
                  intro v35 wa35 wb35 hm35 hl35 hR35
                  obtain ⟨A35, c35, rfl, hs35⟩ := hR35
                  refine x_end ?_
                  refine t_gr (Q := fun _ _ _ => False) ?_ t_nil
                  refine x_call (R := fun v wa wb => ∃ A c, v = .agg #[.string ⟨#[85, 78, 84]⟩, .slice A 2 c] ∧ sliceRd (tySlice tyStr) (fun b => wa.heap.size ≤ b) wb (.slice A 2 c) [splitC (⟨#[55]⟩), splitC (⟨#[49]⟩)]) rfl rfl rfl Tryd.func31 (by kernel_rfl) rfl (fun w1 hw1 => (c_segment (es := [⟨#[55]⟩, ⟨#[49]⟩]) (D := fun _ => True) ⟨#[85, 78, 84]⟩ w1 (rowS_rd (e := 9) (r := some (p36, [Value.string (⟨#[55]⟩), Value.string (⟨#[49]⟩)], 2)) (n := 2) (rowOK_lit rfl (by decide)) rfl (fun s hs => ok_of (z36 s hs)) hw1 (fun q hq => by rw [List.mem_singleton.1 hq]; exact (by repeat (first | exact List.Mem.head _ | apply List.Mem.tail))) (fun _ _ => trivial)) (fun s hs => Nat.le_trans (z36 s hs) (by decide)) (by show 2 ≤ 1000; decide) (hL.later (hw1.base (by simp)))).mono fun e w2 ⟨u, h1, h2, h3⟩ => seg_out h1 h2 h3) ?_
                  intro v37 wa37 wb37 hm37 hl37 hR37
                  obtain ⟨A37, c37, rfl, hs37⟩ := hR37
                  refine x_end ?_
                  refine t_gr (Q := fun _ _ _ => False) ?_ t_nil
                  refine x_buildSliceL (cs := ([[Value.string ⟨#[85, 78, 72]⟩, .slice A7 2 c7], [Value.string ⟨#[66, 71, 77]⟩, .slice A12 2 c12], [Value.string ⟨#[76, 73, 78]⟩, .slice A17 3 c17], [Value.string ⟨#[81, 84, 89]⟩, .slice A23 1 c23], [Value.string ⟨#[80, 82, 73]⟩, .slice A29 1 c29], [Value.string ⟨#[82, 70, 70]⟩, .slice A35 1 c35], [Value.string ⟨#[85, 78, 84]⟩, .slice A37 2 c37]] : List (List Value)).flatten) rfl rfl rfl Tryd.underlying26 sz40 zr40 rfl rfl rfl ?_
                  intro p38
                  refine x_end ?_
                  refine t_flt (Q := fun _ _ _ => False) ?_
                  refine x_val rfl rfl rfl (v_assign rfl) ?_
                  refine x_end ?_
                  refine t_done ?_
                  refine x_end ?_
                  refine t_norm ?_
                  refine w_ret ?_
                  refine ret1 rfl rfl (fun w' hm => ?_)
                  rw [show orderR o = orderP o from by unfold orderR; rw [if_pos hw]]
                  exact ⟨_, rfl, hm.base (by simp), RdAll.rd (e := 40) (css := [[Value.string ⟨#[85, 78, 72]⟩, .slice A7 2 c7], [Value.string ⟨#[66, 71, 77]⟩, .slice A12 2 c12], [Value.string ⟨#[76, 73, 78]⟩, .slice A17 3 c17], [Value.string ⟨#[81, 84, 89]⟩, .slice A23 1 c23], [Value.string ⟨#[80, 82, 73]⟩, .slice A29 1 c29], [Value.string ⟨#[82, 70, 70]⟩, .slice A35 1 c35], [Value.string ⟨#[85, 78, 84]⟩, .slice A37 2 c37]]) (xs := orderP o) (.cons (tySeg_mk (x := ⟨⟨#[85, 78, 72]⟩, [splitC (⟨#[49]⟩), splitC (⟨#[79, 82, 68, 69, 82, 83, 58, 68, 58, 57, 54, 65, 58, 85, 78]⟩)]⟩) rfl (show (3 : Nat) ≤ 9223372036854775807 by decide) (hs7.keep (Kept.made hm (by repeat (first | exact List.Mem.head _ | apply List.Mem.tail)) hm7 (hm7.base (by simp)).size))) (.cons (tySeg_mk (x := ⟨⟨#[66, 71, 77]⟩, [splitC (⟨#[50, 50, 48]⟩), splitC (itoaS o.id)]⟩) rfl (show (3 : Nat) ≤ 9223372036854775807 by decide) (hs12.keep (Kept.made hm (by repeat (first | exact List.Mem.head _ | apply List.Mem.tail)) hm12 (hm12.base (by simp)).size))) (.cons (tySeg_mk (x := ⟨⟨#[76, 73, 78]⟩, [splitC (⟨#[49]⟩), splitC (⟨#[]⟩), splitC (artS o.src o.num)]⟩) rfl (show (3 : Nat) ≤ 9223372036854775807 by decide) (hs17.keep (Kept.made hm (by repeat (first | exact List.Mem.head _ | apply List.Mem.tail)) hm17 (hm17.base (by simp)).size))) (.cons (tySeg_mk (x := ⟨⟨#[81, 84, 89]⟩, [splitC ((⟨#[50, 49, 58]⟩ : ByteArray) ++ itoaS o.copies)]⟩) rfl (show (3 : Nat) ≤ 9223372036854775807 by decide) (hs23.keep (Kept.made hm (by repeat (first | exact List.Mem.head _ | apply List.Mem.tail)) hm23 (hm23.base (by simp)).size))) (.cons (tySeg_mk (x := ⟨⟨#[80, 82, 73]⟩, [splitC ((⟨#[65, 65, 65, 58]⟩ : ByteArray) ++ itoaS o.price)]⟩) rfl (show (3 : Nat) ≤ 9223372036854775807 by decide) (hs29.keep (Kept.made hm (by repeat (first | exact List.Mem.head _ | apply List.Mem.tail)) hm29 (hm29.base (by simp)).size))) (.cons (tySeg_mk (x := ⟨⟨#[82, 70, 70]⟩, [splitC ((⟨#[66, 70, 78, 58]⟩ : ByteArray) ++ itoaS o.fund)]⟩) rfl (show (3 : Nat) ≤ 9223372036854775807 by decide) (hs35.keep (Kept.made hm (by repeat (first | exact List.Mem.head _ | apply List.Mem.tail)) hm35 (hm35.base (by simp)).size))) (.cons (tySeg_mk (x := ⟨⟨#[85, 78, 84]⟩, [splitC (⟨#[55]⟩), splitC (⟨#[49]⟩)]⟩) rfl (show (3 : Nat) ≤ 9223372036854775807 by decide) (hs37.keep (Kept.made hm (by repeat (first | exact List.Mem.head _ | apply List.Mem.tail)) hm37 (hm37.base (by simp)).size))) (.nil)))))))) hm (.head _) (by repeat (first | exact List.Mem.head _ | apply List.Mem.tail)) rfl (show (7 : Nat) ≤ maxLen by decide)⟩
                refine t_gr (Q := fun _ _ _ => False) ?_ t_nil
                refine x_buildSliceL (cs := [Value.string (⟨#[55]⟩), Value.string (⟨#[49]⟩)]) rfl rfl rfl Tryd.underlying25 sz9 zr9 rfl rfl rfl ?_
                intro p36
                refine x_end ?_
                refine t_gr (Q := fun _ _ _ => False) ?_ t_nil
                refine x_buildSliceL (cs := [Value.string ((⟨#[50, 49, 58]⟩ : ByteArray) ++ itoaS o.copies)]) rfl rfl rfl Tryd.underlying25 sz9 zr9 rfl rfl rfl ?_
                intro p22
                refine x_end ?_
                refine t_gr (Q := fun _ _ _ => False) ?_ t_nil
                refine x_call (R := fun v wa wb => ∃ A c, v = .agg #[.string ⟨#[81, 84, 89]⟩, .slice A 1 c] ∧ sliceRd (tySlice tyStr) (fun b => wa.heap.size ≤ b) wb (.slice A 1 c) [splitC ((⟨#[50, 49, 58]⟩ : ByteArray) ++ itoaS o.copies)]) rfl rfl rfl Tryd.func31 (by kernel_rfl) rfl (fun w1 hw1 => (c_segment (es := [(⟨#[50, 49, 58]⟩ : ByteArray) ++ itoaS o.copies]) (D := fun _ => True) ⟨#[81, 84, 89]⟩ w1 (rowS_rd (e := 9) (r := some (p22, [Value.string ((⟨#[50, 49, 58]⟩ : ByteArray) ++ itoaS o.copies)], 1)) (n := 1) (rowOK_lit rfl (by decide)) rfl (fun s hs => ok_of (z22 s hs)) hw1 (fun q hq => by rw [List.mem_singleton.1 hq]; exact (by repeat (first | exact List.Mem.head _ | apply List.Mem.tail))) (fun _ _ => trivial)) (fun s hs => Nat.le_trans (z22 s hs) (by decide)) (by show 1 ≤ 1000; decide) (hL.later (hw1.base (by simp)))).mono fun e w2 ⟨u, h1, h2, h3⟩ => seg_out h1 h2 h3) ?_
                intro v23 wa23 wb23 hm23 hl23 hR23
                obtain ⟨A23, c23, rfl, hs23⟩ := hR23
                refine x_end ?_
                refine t_flt (Q := fun _ _ _ => False) ?_
                refine x_callv rfl rfl rfl Tryd.func32 (by kernel_rfl) rfl (fun w1 hw1 => c_number o.price w1 hok.2.2.2.2.2 (hL.later (hw1.base (by simp)))) ?_
                refine x_end ?_
                refine t_flt (Q := fun _ _ _ => False) ?_
                refine x_val rfl rfl rfl (v_sadd rfl rfl (by show 4 + (itoaS _).size ≤ _; omega)) ?_
                refine x_end ?_
                refine t_gr (Q := fun _ _ _ => False) ?_ t_nil
                refine x_buildSliceL (cs := [Value.string ((⟨#[65, 65, 65, 58]⟩ : ByteArray) ++ itoaS o.price)]) rfl rfl rfl Tryd.underlying25 sz9 zr9 rfl rfl rfl ?_
                intro p28
                refine x_end ?_
                refine t_gr (Q := fun _ _ _ => False) ?_ t_nil
                refine x_call (R := fun v wa wb => ∃ A c, v = .agg #[.string ⟨#[80, 82, 73]⟩, .slice A 1 c] ∧ sliceRd (tySlice tyStr) (fun b => wa.heap.size ≤ b) wb (.slice A 1 c) [splitC ((⟨#[65, 65, 65, 58]⟩ : ByteArray) ++ itoaS o.price)]) rfl rfl rfl Tryd.func31 (by kernel_rfl) rfl (fun w1 hw1 => (c_segment (es := [(⟨#[65, 65, 65, 58]⟩ : ByteArray) ++ itoaS o.price]) (D := fun _ => True) ⟨#[80, 82, 73]⟩ w1 (rowS_rd (e := 9) (r := some (p28, [Value.string ((⟨#[65, 65, 65, 58]⟩ : ByteArray) ++ itoaS o.price)], 1)) (n := 1) (rowOK_lit rfl (by decide)) rfl (fun s hs => ok_of (z28 s hs)) hw1 (fun q hq => by rw [List.mem_singleton.1 hq]; exact (by repeat (first | exact List.Mem.head _ | apply List.Mem.tail))) (fun _ _ => trivial)) (fun s hs => Nat.le_trans (z28 s hs) (by decide)) (by show 1 ≤ 1000; decide) (hL.later (hw1.base (by simp)))).mono fun e w2 ⟨u, h1, h2, h3⟩ => seg_out h1 h2 h3) ?_
                intro v29 wa29 wb29 hm29 hl29 hR29
                obtain ⟨A29, c29, rfl, hs29⟩ := hR29
                refine x_end ?_
                refine t_flt (Q := fun _ _ _ => False) ?_
                refine x_callv rfl rfl rfl Tryd.func32 (by kernel_rfl) rfl (fun w1 hw1 => c_number o.fund w1 hok.2.1 (hL.later (hw1.base (by simp)))) ?_
                refine x_end ?_
                refine t_flt (Q := fun _ _ _ => False) ?_
                refine x_val rfl rfl rfl (v_sadd rfl rfl (by show 4 + (itoaS _).size ≤ _; omega)) ?_
                refine x_end ?_
                refine t_gr (Q := fun _ _ _ => False) ?_ t_nil
                refine x_buildSliceL (cs := [Value.string ((⟨#[66, 70, 78, 58]⟩ : ByteArray) ++ itoaS o.fund)]) rfl rfl rfl Tryd.underlying25 sz9 zr9 rfl rfl rfl ?_
                intro p34
                refine x_end ?_
                refine t_gr (Q := fun _ _ _ => False) ?_ t_nil
                refine x_call (R := fun v wa wb => ∃ A c, v = .agg #[.string ⟨#[82, 70, 70]⟩, .slice A 1 c] ∧ sliceRd (tySlice tyStr) (fun b => wa.heap.size ≤ b) wb (.slice A 1 c) [splitC ((⟨#[66, 70, 78, 58]⟩ : ByteArray) ++ itoaS o.fund)]) rfl rfl rfl Tryd.func31 (by kernel_rfl) rfl (fun w1 hw1 => (c_segment (es := [(⟨#[66, 70, 78, 58]⟩ : ByteArray) ++ itoaS o.fund]) (D := fun _ => True) ⟨#[82, 70, 70]⟩ w1 (rowS_rd (e := 9) (r := some (p34, [Value.string ((⟨#[66, 70, 78, 58]⟩ : ByteArray) ++ itoaS o.fund)], 1)) (n := 1) (rowOK_lit rfl (by decide)) rfl (fun s hs => ok_of (z34 s hs)) hw1 (fun q hq => by rw [List.mem_singleton.1 hq]; exact (by repeat (first | exact List.Mem.head _ | apply List.Mem.tail))) (fun _ _ => trivial)) (fun s hs => Nat.le_trans (z34 s hs) (by decide)) (by show 1 ≤ 1000; decide) (hL.later (hw1.base (by simp)))).mono fun e w2 ⟨u, h1, h2, h3⟩ => seg_out h1 h2 h3) ?_
                intro v35 wa35 wb35 hm35 hl35 hR35
                obtain ⟨A35, c35, rfl, hs35⟩ := hR35
                refine x_end ?_
                refine t_gr (Q := fun _ _ _ => False) ?_ t_nil
                refine x_call (R := fun v wa wb => ∃ A c, v = .agg #[.string ⟨#[85, 78, 84]⟩, .slice A 2 c] ∧ sliceRd (tySlice tyStr) (fun b => wa.heap.size ≤ b) wb (.slice A 2 c) [splitC (⟨#[55]⟩), splitC (⟨#[49]⟩)]) rfl rfl rfl Tryd.func31 (by kernel_rfl) rfl (fun w1 hw1 => (c_segment (es := [⟨#[55]⟩, ⟨#[49]⟩]) (D := fun _ => True) ⟨#[85, 78, 84]⟩ w1 (rowS_rd (e := 9) (r := some (p36, [Value.string (⟨#[55]⟩), Value.string (⟨#[49]⟩)], 2)) (n := 2) (rowOK_lit rfl (by decide)) rfl (fun s hs => ok_of (z36 s hs)) hw1 (fun q hq => by rw [List.mem_singleton.1 hq]; exact (by repeat (first | exact List.Mem.head _ | apply List.Mem.tail))) (fun _ _ => trivial)) (fun s hs => Nat.le_trans (z36 s hs) (by decide)) (by show 2 ≤ 1000; decide) (hL.later (hw1.base (by simp)))).mono fun e w2 ⟨u, h1, h2, h3⟩ => seg_out h1 h2 h3) ?_
                intro v37 wa37 wb37 hm37 hl37 hR37
                obtain ⟨A37, c37, rfl, hs37⟩ := hR37
                refine x_end ?_
                refine t_gr (Q := fun _ _ _ => False) ?_ t_nil
                refine x_buildSliceL (cs := ([[Value.string ⟨#[85, 78, 72]⟩, .slice A7 2 c7], [Value.string ⟨#[66, 71, 77]⟩, .slice A12 2 c12], [Value.string ⟨#[76, 73, 78]⟩, .slice A17 3 c17], [Value.string ⟨#[81, 84, 89]⟩, .slice A23 1 c23], [Value.string ⟨#[80, 82, 73]⟩, .slice A29 1 c29], [Value.string ⟨#[82, 70, 70]⟩, .slice A35 1 c35], [Value.string ⟨#[85, 78, 84]⟩, .slice A37 2 c37]] : List (List Value)).flatten) rfl rfl rfl Tryd.underlying26 sz40 zr40 rfl rfl rfl ?_
                intro p38
                refine x_end ?_
                refine t_flt (Q := fun _ _ _ => False) ?_
                refine x_val rfl rfl rfl (v_assign rfl) ?_
                refine x_end ?_
                refine t_done ?_
                refine x_end ?_
                refine t_norm ?_
                refine w_ret ?_
                refine ret1 rfl rfl (fun w' hm => ?_)
                rw [show orderR o = orderP o from by unfold orderR; rw [if_pos hw]]
                exact ⟨_, rfl, hm.base (by simp), RdAll.rd (e := 40) (css := [[Value.string ⟨#[85, 78, 72]⟩, .slice A7 2 c7], [Value.string ⟨#[66, 71, 77]⟩, .slice A12 2 c12], [Value.string ⟨#[76, 73, 78]⟩, .slice A17 3 c17], [Value.string ⟨#[81, 84, 89]⟩, .slice A23 1 c23], [Value.string ⟨#[80, 82, 73]⟩, .slice A29 1 c29], [Value.string ⟨#[82, 70, 70]⟩, .slice A35 1 c35], [Value.string ⟨#[85, 78, 84]⟩, .slice A37 2 c37]]) (xs := orderP o) (.cons (tySeg_mk (x := ⟨⟨#[85, 78, 72]⟩, [splitC (⟨#[49]⟩), splitC (⟨#[79, 82, 68, 69, 82, 83, 58, 68, 58, 57, 54, 65, 58, 85, 78]⟩)]⟩) rfl (show (3 : Nat) ≤ 9223372036854775807 by decide) (hs7.keep (Kept.made hm (by repeat (first | exact List.Mem.head _ | apply List.Mem.tail)) hm7 (hm7.base (by simp)).size))) (.cons (tySeg_mk (x := ⟨⟨#[66, 71, 77]⟩, [splitC (⟨#[50, 50, 48]⟩), splitC (itoaS o.id)]⟩) rfl (show (3 : Nat) ≤ 9223372036854775807 by decide) (hs12.keep (Kept.made hm (by repeat (first | exact List.Mem.head _ | apply List.Mem.tail)) hm12 (hm12.base (by simp)).size))) (.cons (tySeg_mk (x := ⟨⟨#[76, 73, 78]⟩, [splitC (⟨#[49]⟩), splitC (⟨#[]⟩), splitC (artS o.src o.num)]⟩) rfl (show (3 : Nat) ≤ 9223372036854775807 by decide) (hs17.keep (Kept.made hm (by repeat (first | exact List.Mem.head _ | apply List.Mem.tail)) hm17 (hm17.base (by simp)).size))) (.cons (tySeg_mk (x := ⟨⟨#[81, 84, 89]⟩, [splitC ((⟨#[50, 49, 58]⟩ : ByteArray) ++ itoaS o.copies)]⟩) rfl (show (3 : Nat) ≤ 9223372036854775807 by decide) (hs23.keep (Kept.made hm (by repeat (first | exact List.Mem.head _ | apply List.Mem.tail)) hm23 (hm23.base (by simp)).size))) (.cons (tySeg_mk (x := ⟨⟨#[80, 82, 73]⟩, [splitC ((⟨#[65, 65, 65, 58]⟩ : ByteArray) ++ itoaS o.price)]⟩) rfl (show (3 : Nat) ≤ 9223372036854775807 by decide) (hs29.keep (Kept.made hm (by repeat (first | exact List.Mem.head _ | apply List.Mem.tail)) hm29 (hm29.base (by simp)).size))) (.cons (tySeg_mk (x := ⟨⟨#[82, 70, 70]⟩, [splitC ((⟨#[66, 70, 78, 58]⟩ : ByteArray) ++ itoaS o.fund)]⟩) rfl (show (3 : Nat) ≤ 9223372036854775807 by decide) (hs35.keep (Kept.made hm (by repeat (first | exact List.Mem.head _ | apply List.Mem.tail)) hm35 (hm35.base (by simp)).size))) (.cons (tySeg_mk (x := ⟨⟨#[85, 78, 84]⟩, [splitC (⟨#[55]⟩), splitC (⟨#[49]⟩)]⟩) rfl (show (3 : Nat) ≤ 9223372036854775807 by decide) (hs37.keep (Kept.made hm (by repeat (first | exact List.Mem.head _ | apply List.Mem.tail)) hm37 (hm37.base (by simp)).size))) (.nil)))))))) hm (.head _) (by repeat (first | exact List.Mem.head _ | apply List.Mem.tail)) rfl (show (7 : Nat) ≤ maxLen by decide)⟩
              refine t_gr (Q := fun _ _ _ => False) ?_ t_nil
              refine x_buildSliceL (cs := [Value.string (⟨#[55]⟩), Value.string (⟨#[49]⟩)]) rfl rfl rfl Tryd.underlying25 sz9 zr9 rfl rfl rfl ?_
              intro p36
              refine x_end ?_
              refine t_gr (Q := fun _ _ _ => False) ?_ t_nil
              refine x_call (R := fun v wa wb => ∃ A c, v = .agg #[.string ⟨#[76, 73, 78]⟩, .slice A 3 c] ∧ sliceRd (tySlice tyStr) (fun b => wa.heap.size ≤ b) wb (.slice A 3 c) [splitC (⟨#[49]⟩), splitC (⟨#[]⟩), splitC (artS o.src o.num)]) rfl rfl rfl Tryd.func31 (by kernel_rfl) rfl (fun w1 hw1 => (c_segment (es := [⟨#[49]⟩, ⟨#[]⟩, artS o.src o.num]) (D := fun _ => True) ⟨#[76, 73, 78]⟩ w1 (rowS_rd (e := 9) (r := some (p16, [Value.string (⟨#[49]⟩), Value.string (⟨#[]⟩), Value.string (artS o.src o.num)], 3)) (n := 3) (rowOK_lit rfl (by decide)) rfl (fun s hs => ok_of (z16 s hs)) hw1 (fun q hq => by rw [List.mem_singleton.1 hq]; exact (by repeat (first | exact List.Mem.head _ | apply List.Mem.tail))) (fun _ _ => trivial)) (fun s hs => Nat.le_trans (z16 s hs) (by decide)) (by show 3 ≤ 1000; decide) (hL.later (hw1.base (by simp)))).mono fun e w2 ⟨u, h1, h2, h3⟩ => seg_out h1 h2 h3) ?_
              intro v17 wa17 wb17 hm17 hl17 hR17
              obtain ⟨A17, c17, rfl, hs17⟩ := hR17
              refine x_end ?_
              refine t_flt (Q := fun _ _ _ => False) ?_
              refine x_callv rfl rfl rfl Tryd.func32 (by kernel_rfl) rfl (fun w1 hw1 => c_number o.copies w1 hok.2.2.2.2.1 (hL.later (hw1.base (by simp)))) ?_
              refine x_end ?_
              refine t_flt (Q := fun _ _ _ => False) ?_
              refine x_val rfl rfl rfl (v_sadd rfl rfl (by show 3 + (itoaS _).size ≤ _; omega)) ?_
              refine x_end ?_
              refine t_gr (Q := fun _ _ _ => False) ?_ t_nil
              refine x_buildSliceL (cs := [Value.string ((⟨#[50, 49, 58]⟩ : ByteArray) ++ itoaS o.copies)]) rfl rfl rfl Tryd.underlying25 sz9 zr9 rfl rfl rfl ?_
              intro p22
              refine x_end ?_
              refine t_gr (Q := fun _ _ _ => False) ?_ t_nil
              refine x_call (R := fun v wa wb => ∃ A c, v = .agg #[.string ⟨#[81, 84, 89]⟩, .slice A 1 c] ∧ sliceRd (tySlice tyStr) (fun b => wa.heap.size ≤ b) wb (.slice A 1 c) [splitC ((⟨#[50, 49, 58]⟩ : ByteArray) ++ itoaS o.copies)]) rfl rfl rfl Tryd.func31 (by kernel_rfl) rfl (fun w1 hw1 => (c_segment (es := [(⟨#[50, 49, 58]⟩ : ByteArray) ++ itoaS o.copies]) (D := fun _ => True) ⟨#[81, 84, 89]⟩ w1 (rowS_rd (e := 9) (r := some (p22, [Value.string ((⟨#[50, 49, 58]⟩ : ByteArray) ++ itoaS o.copies)], 1)) (n := 1) (rowOK_lit rfl (by decide)) rfl (fun s hs => ok_of (z22 s hs)) hw1 (fun q hq => by rw [List.mem_singleton.1 hq]; exact (by repeat (first | exact List.Mem.head _ | apply List.Mem.tail))) (fun _ _ => trivial)) (fun s hs => Nat.le_trans (z22 s hs) (by decide)) (by show 1 ≤ 1000; decide) (hL.later (hw1.base (by simp)))).mono fun e w2 ⟨u, h1, h2, h3⟩ => seg_out h1 h2 h3) ?_
              intro v23 wa23 wb23 hm23 hl23 hR23
              obtain ⟨A23, c23, rfl, hs23⟩ := hR23
              refine x_end ?_
              refine t_flt (Q := fun _ _ _ => False) ?_
              refine x_callv rfl rfl rfl Tryd.func32 (by kernel_rfl) rfl (fun w1 hw1 => c_number o.price w1 hok.2.2.2.2.2 (hL.later (hw1.base (by simp)))) ?_
              refine x_end ?_
              refine t_flt (Q := fun _ _ _ => False) ?_
              refine x_val rfl rfl rfl (v_sadd rfl rfl (by show 4 + (itoaS _).size ≤ _; omega)) ?_
              refine x_end ?_
              refine t_gr (Q := fun _ _ _ => False) ?_ t_nil
              refine x_buildSliceL (cs := [Value.string ((⟨#[65, 65, 65, 58]⟩ : ByteArray) ++ itoaS o.price)]) rfl rfl rfl Tryd.underlying25 sz9 zr9 rfl rfl rfl ?_
              intro p28
              refine x_end ?_
              refine t_gr (Q := fun _ _ _ => False) ?_ t_nil
              refine x_call (R := fun v wa wb => ∃ A c, v = .agg #[.string ⟨#[80, 82, 73]⟩, .slice A 1 c] ∧ sliceRd (tySlice tyStr) (fun b => wa.heap.size ≤ b) wb (.slice A 1 c) [splitC ((⟨#[65, 65, 65, 58]⟩ : ByteArray) ++ itoaS o.price)]) rfl rfl rfl Tryd.func31 (by kernel_rfl) rfl (fun w1 hw1 => (c_segment (es := [(⟨#[65, 65, 65, 58]⟩ : ByteArray) ++ itoaS o.price]) (D := fun _ => True) ⟨#[80, 82, 73]⟩ w1 (rowS_rd (e := 9) (r := some (p28, [Value.string ((⟨#[65, 65, 65, 58]⟩ : ByteArray) ++ itoaS o.price)], 1)) (n := 1) (rowOK_lit rfl (by decide)) rfl (fun s hs => ok_of (z28 s hs)) hw1 (fun q hq => by rw [List.mem_singleton.1 hq]; exact (by repeat (first | exact List.Mem.head _ | apply List.Mem.tail))) (fun _ _ => trivial)) (fun s hs => Nat.le_trans (z28 s hs) (by decide)) (by show 1 ≤ 1000; decide) (hL.later (hw1.base (by simp)))).mono fun e w2 ⟨u, h1, h2, h3⟩ => seg_out h1 h2 h3) ?_
              intro v29 wa29 wb29 hm29 hl29 hR29
              obtain ⟨A29, c29, rfl, hs29⟩ := hR29
              refine x_end ?_
              refine t_flt (Q := fun _ _ _ => False) ?_
              refine x_callv rfl rfl rfl Tryd.func32 (by kernel_rfl) rfl (fun w1 hw1 => c_number o.fund w1 hok.2.1 (hL.later (hw1.base (by simp)))) ?_
              refine x_end ?_
              refine t_flt (Q := fun _ _ _ => False) ?_
              refine x_val rfl rfl rfl (v_sadd rfl rfl (by show 4 + (itoaS _).size ≤ _; omega)) ?_
              refine x_end ?_
              refine t_gr (Q := fun _ _ _ => False) ?_ t_nil
              refine x_buildSliceL (cs := [Value.string ((⟨#[66, 70, 78, 58]⟩ : ByteArray) ++ itoaS o.fund)]) rfl rfl rfl Tryd.underlying25 sz9 zr9 rfl rfl rfl ?_
              intro p34
              refine x_end ?_
              refine t_gr (Q := fun _ _ _ => False) ?_ t_nil
              refine x_call (R := fun v wa wb => ∃ A c, v = .agg #[.string ⟨#[82, 70, 70]⟩, .slice A 1 c] ∧ sliceRd (tySlice tyStr) (fun b => wa.heap.size ≤ b) wb (.slice A 1 c) [splitC ((⟨#[66, 70, 78, 58]⟩ : ByteArray) ++ itoaS o.fund)]) rfl rfl rfl Tryd.func31 (by kernel_rfl) rfl (fun w1 hw1 => (c_segment (es := [(⟨#[66, 70, 78, 58]⟩ : ByteArray) ++ itoaS o.fund]) (D := fun _ => True) ⟨#[82, 70, 70]⟩ w1 (rowS_rd (e := 9) (r := some (p34, [Value.string ((⟨#[66, 70, 78, 58]⟩ : ByteArray) ++ itoaS o.fund)], 1)) (n := 1) (rowOK_lit rfl (by decide)) rfl (fun s hs => ok_of (z34 s hs)) hw1 (fun q hq => by rw [List.mem_singleton.1 hq]; exact (by repeat (first | exact List.Mem.head _ | apply List.Mem.tail))) (fun _ _ => trivial)) (fun s hs => Nat.le_trans (z34 s hs) (by decide)) (by show 1 ≤ 1000; decide) (hL.later (hw1.base (by simp)))).mono fun e w2 ⟨u, h1, h2, h3⟩ => seg_out h1 h2 h3) ?_
              intro v35 wa35 wb35 hm35 hl35 hR35
              obtain ⟨A35, c35, rfl, hs35⟩ := hR35
              refine x_end ?_
              refine t_gr (Q := fun _ _ _ => False) ?_ t_nil
              refine x_call (R := fun v wa wb => ∃ A c, v = .agg #[.string ⟨#[85, 78, 84]⟩, .slice A 2 c] ∧ sliceRd (tySlice tyStr) (fun b => wa.heap.size ≤ b) wb (.slice A 2 c) [splitC (⟨#[55]⟩), splitC (⟨#[49]⟩)]) rfl rfl rfl Tryd.func31 (by kernel_rfl) rfl (fun w1 hw1 => (c_segment (es := [⟨#[55]⟩, ⟨#[49]⟩]) (D := fun _ => True) ⟨#[85, 78, 84]⟩ w1 (rowS_rd (e := 9) (r := some (p36, [Value.string (⟨#[55]⟩), Value.string (⟨#[49]⟩)], 2)) (n := 2) (rowOK_lit rfl (by decide)) rfl (fun s hs => ok_of (z36 s hs)) hw1 (fun q hq => by rw [List.mem_singleton.1 hq]; exact (by repeat (first | exact List.Mem.head _ | apply List.Mem.tail))) (fun _ _ => trivial)) (fun s hs => Nat.le_trans (z36 s hs) (by decide)) (by show 2 ≤ 1000; decide) (hL.later (hw1.base (by simp)))).mono fun e w2 ⟨u, h1, h2, h3⟩ => seg_out h1 h2 h3) ?_
              intro v37 wa37 wb37 hm37 hl37 hR37
              obtain ⟨A37, c37, rfl, hs37⟩ := hR37
              refine x_end ?_
              refine t_gr (Q := fun _ _ _ => False) ?_ t_nil
              refine x_buildSliceL (cs := ([[Value.string ⟨#[85, 78, 72]⟩, .slice A7 2 c7], [Value.string ⟨#[66, 71, 77]⟩, .slice A12 2 c12], [Value.string ⟨#[76, 73, 78]⟩, .slice A17 3 c17], [Value.string ⟨#[81, 84, 89]⟩, .slice A23 1 c23], [Value.string ⟨#[80, 82, 73]⟩, .slice A29 1 c29], [Value.string ⟨#[82, 70, 70]⟩, .slice A35 1 c35], [Value.string ⟨#[85, 78, 84]⟩, .slice A37 2 c37]] : List (List Value)).flatten) rfl rfl rfl Tryd.underlying26 sz40 zr40 rfl rfl rfl ?_
              intro p38
              refine x_end ?_
              refine t_flt (Q := fun _ _ _ => False) ?_
              refine x_val rfl rfl rfl (v_assign rfl) ?_
              refine x_end ?_
              refine t_done ?_
              refine x_end ?_
              refine t_norm ?_
              refine w_ret ?_
              refine ret1 rfl rfl (fun w' hm => ?_)
              rw [show orderR o = orderP o from by unfold orderR; rw [if_pos hw]]
              exact ⟨_, rfl, hm.base (by simp), RdAll.rd (e := 40) (css := [[Value.string ⟨#[85, 78, 72]⟩, .slice A7 2 c7], [Value.string ⟨#[66, 71, 77]⟩, .slice A12 2 c12], [Value.string ⟨#[76, 73, 78]⟩, .slice A17 3 c17], [Value.string ⟨#[81, 84, 89]⟩, .slice A23 1 c23], [Value.string ⟨#[80, 82, 73]⟩, .slice A29 1 c29], [Value.string ⟨#[82, 70, 70]⟩, .slice A35 1 c35], [Value.string ⟨#[85, 78, 84]⟩, .slice A37 2 c37]]) (xs := orderP o) (.cons (tySeg_mk (x := ⟨⟨#[85, 78, 72]⟩, [splitC (⟨#[49]⟩), splitC (⟨#[79, 82, 68, 69, 82, 83, 58, 68, 58, 57, 54, 65, 58, 85, 78]⟩)]⟩) rfl (show (3 : Nat) ≤ 9223372036854775807 by decide) (hs7.keep (Kept.made hm (by repeat (first | exact List.Mem.head _ | apply List.Mem.tail)) hm7 (hm7.base (by simp)).size))) (.cons (tySeg_mk (x := ⟨⟨#[66, 71, 77]⟩, [splitC (⟨#[50, 50, 48]⟩), splitC (itoaS o.id)]⟩) rfl (show (3 : Nat) ≤ 9223372036854775807 by decide) (hs12.keep (Kept.made hm (by repeat (first | exact List.Mem.head _ | apply List.Mem.tail)) hm12 (hm12.base (by simp)).size))) (.cons (tySeg_mk (x := ⟨⟨#[76, 73, 78]⟩, [splitC (⟨#[49]⟩), splitC (⟨#[]⟩), splitC (artS o.src o.num)]⟩) rfl (show (3 : Nat) ≤ 9223372036854775807 by decide) (hs17.keep (Kept.made hm (by repeat (first | exact List.Mem.head _ | apply List.Mem.tail)) hm17 (hm17.base (by simp)).size))) (.cons (tySeg_mk (x := ⟨⟨#[81, 84, 89]⟩, [splitC ((⟨#[50, 49, 58]⟩ : ByteArray) ++ itoaS o.copies)]⟩) rfl (show (3 : Nat) ≤ 9223372036854775807 by decide) (hs23.keep (Kept.made hm (by repeat (first | exact List.Mem.head _ | apply List.Mem.tail)) hm23 (hm23.base (by simp)).size))) (.cons (tySeg_mk (x := ⟨⟨#[80, 82, 73]⟩, [splitC ((⟨#[65, 65, 65, 58]⟩ : ByteArray) ++ itoaS o.price)]⟩) rfl (show (3 : Nat) ≤ 9223372036854775807 by decide) (hs29.keep (Kept.made hm (by repeat (first | exact List.Mem.head _ | apply List.Mem.tail)) hm29 (hm29.base (by simp)).size))) (.cons (tySeg_mk (x := ⟨⟨#[82, 70, 70]⟩, [splitC ((⟨#[66, 70, 78, 58]⟩ : ByteArray) ++ itoaS o.fund)]⟩) rfl (show (3 : Nat) ≤ 9223372036854775807 by decide) (hs35.keep (Kept.made hm (by repeat (first | exact List.Mem.head _ | apply List.Mem.tail)) hm35 (hm35.base (by simp)).size))) (.cons (tySeg_mk (x := ⟨⟨#[85, 78, 84]⟩, [splitC (⟨#[55]⟩), splitC (⟨#[49]⟩)]⟩) rfl (show (3 : Nat) ≤ 9223372036854775807 by decide) (hs37.keep (Kept.made hm (by repeat (first | exact List.Mem.head _ | apply List.Mem.tail)) hm37 (hm37.base (by simp)).size))) (.nil)))))))) hm (.head _) (by repeat (first | exact List.Mem.head _ | apply List.Mem.tail)) rfl (show (7 : Nat) ≤ maxLen by decide)⟩
            refine t_gr (Q := fun _ _ _ => False) ?_ t_nil
            refine x_buildSliceL (cs := [Value.string (⟨#[55]⟩), Value.string (⟨#[49]⟩)]) rfl rfl rfl Tryd.underlying25 sz9 zr9 rfl rfl rfl ?_
            intro p36
            refine x_end ?_
            refine t_gr (Q := fun _ _ _ => False) ?_ t_nil
            refine x_buildSliceL (cs := [Value.string (⟨#[49]⟩), Value.string (⟨#[]⟩), Value.string (artS o.src o.num)]) rfl rfl rfl Tryd.underlying25 sz9 zr9 rfl rfl rfl ?_
            intro p16
            refine x_end ?_
            refine t_gr (Q := fun _ _ _ => False) ?_ t_nil
            refine x_call (R := fun v wa wb => ∃ A c, v = .agg #[.string ⟨#[76, 73, 78]⟩, .slice A 3 c] ∧ sliceRd (tySlice tyStr) (fun b => wa.heap.size ≤ b) wb (.slice A 3 c) [splitC (⟨#[49]⟩), splitC (⟨#[]⟩), splitC (artS o.src o.num)]) rfl rfl rfl Tryd.func31 (by kernel_rfl) rfl (fun w1 hw1 => (c_segment (es := [⟨#[49]⟩, ⟨#[]⟩, artS o.src o.num]) (D := fun _ => True) ⟨#[76, 73, 78]⟩ w1 (rowS_rd (e := 9) (r := some (p16, [Value.string (⟨#[49]⟩), Value.string (⟨#[]⟩), Value.string (artS o.src o.num)], 3)) (n := 3) (rowOK_lit rfl (by decide)) rfl (fun s hs => ok_of (z16 s hs)) hw1 (fun q hq => by rw [List.mem_singleton.1 hq]; exact (by repeat (first | exact List.Mem.head _ | apply List.Mem.tail))) (fun _ _ => trivial)) (fun s hs => Nat.le_trans (z16 s hs) (by decide)) (by show 3 ≤ 1000; decide) (hL.later (hw1.base (by simp)))).mono fun e w2 ⟨u, h1, h2, h3⟩ => seg_out h1 h2 h3) ?_
            intro v17 wa17 wb17 hm17 hl17 hR17
            obtain ⟨A17, c17, rfl, hs17⟩ := hR17
            refine x_end ?_
            refine t_flt (Q := fun _ _ _ => False) ?_
            refine x_callv rfl rfl rfl Tryd.func32 (by kernel_rfl) rfl (fun w1 hw1 => c_number o.copies w1 hok.2.2.2.2.1 (hL.later (hw1.base (by simp)))) ?_
            refine x_end ?_
            refine t_flt (Q := fun _ _ _ => False) ?_
            refine x_val rfl rfl rfl (v_sadd rfl rfl (by show 3 + (itoaS _).size ≤ _; omega)) ?_
            refine x_end ?_
            refine t_gr (Q := fun _ _ _ => False) ?_ t_nil
            refine x_buildSliceL (cs := [Value.string ((⟨#[50, 49, 58]⟩ : ByteArray) ++ itoaS o.copies)]) rfl rfl rfl Tryd.underlying25 sz9 zr9 rfl rfl rfl ?_
            intro p22
            refine x_end ?_
            refine t_gr (Q := fun _ _ _ => False) ?_ t_nil
            refine x_call (R := fun v wa wb => ∃ A c, v = .agg #[.string ⟨#[81, 84, 89]⟩, .slice A 1 c] ∧ sliceRd (tySlice tyStr) (fun b => wa.heap.size ≤ b) wb (.slice A 1 c) [splitC ((⟨#[50, 49, 58]⟩ : ByteArray) ++ itoaS o.copies)]) rfl rfl rfl Tryd.func31 (by kernel_rfl) rfl (fun w1 hw1 => (c_segment (es := [(⟨#[50, 49, 58]⟩ : ByteArray) ++ itoaS o.copies]) (D := fun _ => True) ⟨#[81, 84, 89]⟩ w1 (rowS_rd (e := 9) (r := some (p22, [Value.string ((⟨#[50, 49, 58]⟩ : ByteArray) ++ itoaS o.copies)], 1)) (n := 1) (rowOK_lit rfl (by decide)) rfl (fun s hs => ok_of (z22 s hs)) hw1 (fun q hq => by rw [List.mem_singleton.1 hq]; exact (by repeat (first | exact List.Mem.head _ | apply List.Mem.tail))) (fun _ _ => trivial)) (fun s hs => Nat.le_trans (z22 s hs) (by decide)) (by show 1 ≤ 1000; decide) (hL.later (hw1.base (by simp)))).mono fun e w2 ⟨u, h1, h2, h3⟩ => seg_out h1 h2 h3) ?_
            intro v23 wa23 wb23 hm23 hl23 hR23
            obtain ⟨A23, c23, rfl, hs23⟩ := hR23
            refine x_end ?_
            refine t_flt (Q := fun _ _ _ => False) ?_
            refine x_callv rfl rfl rfl Tryd.func32 (by kernel_rfl) rfl (fun w1 hw1 => c_number o.price w1 hok.2.2.2.2.2 (hL.later (hw1.base (by simp)))) ?_
            refine x_end ?_
            refine t_flt (Q := fun _ _ _ => False) ?_
            refine x_val rfl rfl rfl (v_sadd rfl rfl (by show 4 + (itoaS _).size ≤ _; omega)) ?_
            refine x_end ?_
            refine t_gr (Q := fun _ _ _ => False) ?_ t_nil
            refine x_buildSliceL (cs := [Value.string ((⟨#[65, 65, 65, 58]⟩ : ByteArray) ++ itoaS o.price)]) rfl rfl rfl Tryd.underlying25 sz9 zr9 rfl rfl rfl ?_
            intro p28
            refine x_end ?_
            refine t_gr (Q := fun _ _ _ => False) ?_ t_nil
            refine x_call (R := fun v wa wb => ∃ A c, v = .agg #[.string ⟨#[80, 82, 73]⟩, .slice A 1 c] ∧ sliceRd (tySlice tyStr) (fun b => wa.heap.size ≤ b) wb (.slice A 1 c) [splitC ((⟨#[65, 65, 65, 58]⟩ : ByteArray) ++ itoaS o.price)]) rfl rfl rfl Tryd.func31 (by kernel_rfl) rfl (fun w1 hw1 => (c_segment (es := [(⟨#[65, 65, 65, 58]⟩ : ByteArray) ++ itoaS o.price]) (D := fun _ => True) ⟨#[80, 82, 73]⟩ w1 (rowS_rd (e := 9) (r := some (p28, [Value.string ((⟨#[65, 65, 65, 58]⟩ : ByteArray) ++ itoaS o.price)], 1)) (n := 1) (rowOK_lit rfl (by decide)) rfl (fun s hs => ok_of (z28 s hs)) hw1 (fun q hq => by rw [List.mem_singleton.1 hq]; exact (by repeat (first | exact List.Mem.head _ | apply List.Mem.tail))) (fun _ _ => trivial)) (fun s hs => Nat.le_trans (z28 s hs) (by decide)) (by show 1 ≤ 1000; decide) (hL.later (hw1.base (by simp)))).mono fun e w2 ⟨u, h1, h2, h3⟩ => seg_out h1 h2 h3) ?_
            intro v29 wa29 wb29 hm29 hl29 hR29
            obtain ⟨A29, c29, rfl, hs29⟩ := hR29
            refine x_end ?_
            refine t_flt (Q := fun _ _ _ => False) ?_
            refine x_callv rfl rfl rfl Tryd.func32 (by kernel_rfl) rfl (fun w1 hw1 => c_number o.fund w1 hok.2.1 (hL.later (hw1.base (by simp)))) ?_
            refine x_end ?_
            refine t_flt (Q := fun _ _ _ => False) ?_
            refine x_val rfl rfl rfl (v_sadd rfl rfl (by show 4 + (itoaS _).size ≤ _; omega)) ?_
            refine x_end ?_
            refine t_gr (Q := fun _ _ _ => False) ?_ t_nil
            refine x_buildSliceL (cs := [Value.string ((⟨#[66, 70, 78, 58]⟩ : ByteArray) ++ itoaS o.fund)]) rfl rfl rfl Tryd.underlying25 sz9 zr9 rfl rfl rfl ?_
            intro p34
            refine x_end ?_
            refine t_gr (Q := fun _ _ _ => False) ?_ t_nil
            refine x_call (R := fun v wa wb => ∃ A c, v = .agg #[.string ⟨#[82, 70, 70]⟩, .slice A 1 c] ∧ sliceRd (tySlice tyStr) (fun b => wa.heap.size ≤ b) wb (.slice A 1 c) [splitC ((⟨#[66, 70, 78, 58]⟩ : ByteArray) ++ itoaS o.fund)]) rfl rfl rfl Tryd.func31 (by kernel_rfl) rfl (fun w1 hw1 => (c_segment (es := [(⟨#[66, 70, 78, 58]⟩ : ByteArray) ++ itoaS o.fund]) (D := fun _ => True) ⟨#[82, 70, 70]⟩ w1 (rowS_rd (e := 9) (r := some (p34, [Value.string ((⟨#[66, 70, 78, 58]⟩ : ByteArray) ++ itoaS o.fund)], 1)) (n := 1) (rowOK_lit rfl (by decide)) rfl (fun s hs => ok_of (z34 s hs)) hw1 (fun q hq => by rw [List.mem_singleton.1 hq]; exact (by repeat (first | exact List.Mem.head _ | apply List.Mem.tail))) (fun _ _ => trivial)) (fun s hs => Nat.le_trans (z34 s hs) (by decide)) (by show 1 ≤ 1000; decide) (hL.later (hw1.base (by simp)))).mono fun e w2 ⟨u, h1, h2, h3⟩ => seg_out h1 h2 h3) ?_
            intro v35 wa35 wb35 hm35 hl35 hR35
            obtain ⟨A35, c35, rfl, hs35⟩ := hR35
            refine x_end ?_
            refine t_gr (Q := fun _ _ _ => False) ?_ t_nil
            refine x_call (R := fun v wa wb => ∃ A c, v = .agg #[.string ⟨#[85, 78, 84]⟩, .slice A 2 c] ∧ sliceRd (tySlice tyStr) (fun b => wa.heap.size ≤ b) wb (.slice A 2 c) [splitC (⟨#[55]⟩), splitC (⟨#[49]⟩)]) rfl rfl rfl Tryd.func31 (by kernel_rfl) rfl (fun w1 hw1 => (c_segment (es := [⟨#[55]⟩, ⟨#[49]⟩]) (D := fun _ => True) ⟨#[85, 78, 84]⟩ w1 (rowS_rd (e := 9) (r := some (p36, [Value.string (⟨#[55]⟩), Value.string (⟨#[49]⟩)], 2)) (n := 2) (rowOK_lit rfl (by decide)) rfl (fun s hs => ok_of (z36 s hs)) hw1 (fun q hq => by rw [List.mem_singleton.1 hq]; exact (by repeat (first | exact List.Mem.head _ | apply List.Mem.tail))) (fun _ _ => trivial)) (fun s hs => Nat.le_trans (z36 s hs) (by decide)) (by show 2 ≤ 1000; decide) (hL.later (hw1.base (by simp)))).mono fun e w2 ⟨u, h1, h2, h3⟩ => seg_out h1 h2 h3) ?_
            intro v37 wa37 wb37 hm37 hl37 hR37
            obtain ⟨A37, c37, rfl, hs37⟩ := hR37
            refine x_end ?_
            refine t_gr (Q := fun _ _ _ => False) ?_ t_nil
            refine x_buildSliceL (cs := ([[Value.string ⟨#[85, 78, 72]⟩, .slice A7 2 c7], [Value.string ⟨#[66, 71, 77]⟩, .slice A12 2 c12], [Value.string ⟨#[76, 73, 78]⟩, .slice A17 3 c17], [Value.string ⟨#[81, 84, 89]⟩, .slice A23 1 c23], [Value.string ⟨#[80, 82, 73]⟩, .slice A29 1 c29], [Value.string ⟨#[82, 70, 70]⟩, .slice A35 1 c35], [Value.string ⟨#[85, 78, 84]⟩, .slice A37 2 c37]] : List (List Value)).flatten) rfl rfl rfl Tryd.underlying26 sz40 zr40 rfl rfl rfl ?_
            intro p38
            refine x_end ?_
            refine t_flt (Q := fun _ _ _ => False) ?_
            refine x_val rfl rfl rfl (v_assign rfl) ?_
            refine x_end ?_
            refine t_done ?_
            refine x_end ?_
            refine t_norm ?_
            refine w_ret ?_
            refine ret1 rfl rfl (fun w' hm => ?_)
            rw [show orderR o = orderP o from by unfold orderR; rw [if_pos hw]]
            exact ⟨_, rfl, hm.base (by simp), RdAll.rd (e := 40) (css := [[Value.string ⟨#[85, 78, 72]⟩, .slice A7 2 c7], [Value.string ⟨#[66, 71, 77]⟩, .slice A12 2 c12], [Value.string ⟨#[76, 73, 78]⟩, .slice A17 3 c17], [Value.string ⟨#[81, 84, 89]⟩, .slice A23 1 c23], [Value.string ⟨#[80, 82, 73]⟩, .slice A29 1 c29], [Value.string ⟨#[82, 70, 70]⟩, .slice A35 1 c35], [Value.string ⟨#[85, 78, 84]⟩, .slice A37 2 c37]]) (xs := orderP o) (.cons (tySeg_mk (x := ⟨⟨#[85, 78, 72]⟩, [splitC (⟨#[49]⟩), splitC (⟨#[79, 82, 68, 69, 82, 83, 58, 68, 58, 57, 54, 65, 58, 85, 78]⟩)]⟩) rfl (show (3 : Nat) ≤ 9223372036854775807 by decide) (hs7.keep (Kept.made hm (by repeat (first | exact List.Mem.head _ | apply List.Mem.tail)) hm7 (hm7.base (by simp)).size))) (.cons (tySeg_mk (x := ⟨⟨#[66, 71, 77]⟩, [splitC (⟨#[50, 50, 48]⟩), splitC (itoaS o.id)]⟩) rfl (show (3 : Nat) ≤ 9223372036854775807 by decide) (hs12.keep (Kept.made hm (by repeat (first | exact List.Mem.head _ | apply List.Mem.tail)) hm12 (hm12.base (by simp)).size))) (.cons (tySeg_mk (x := ⟨⟨#[76, 73, 78]⟩, [splitC (⟨#[49]⟩), splitC (⟨#[]⟩), splitC (artS o.src o.num)]⟩) rfl (show (3 : Nat) ≤ 9223372036854775807 by decide) (hs17.keep (Kept.made hm (by repeat (first | exact List.Mem.head _ | apply List.Mem.tail)) hm17 (hm17.base (by simp)).size))) (.cons (tySeg_mk (x := ⟨⟨#[81, 84, 89]⟩, [splitC ((⟨#[50, 49, 58]⟩ : ByteArray) ++ itoaS o.copies)]⟩) rfl (show (3 : Nat) ≤ 9223372036854775807 by decide) (hs23.keep (Kept.made hm (by repeat (first | exact List.Mem.head _ | apply List.Mem.tail)) hm23 (hm23.base (by simp)).size))) (.cons (tySeg_mk (x := ⟨⟨#[80, 82, 73]⟩, [splitC ((⟨#[65, 65, 65, 58]⟩ : ByteArray) ++ itoaS o.price)]⟩) rfl (show (3 : Nat) ≤ 9223372036854775807 by decide) (hs29.keep (Kept.made hm (by repeat (first | exact List.Mem.head _ | apply List.Mem.tail)) hm29 (hm29.base (by simp)).size))) (.cons (tySeg_mk (x := ⟨⟨#[82, 70, 70]⟩, [splitC ((⟨#[66, 70, 78, 58]⟩ : ByteArray) ++ itoaS o.fund)]⟩) rfl (show (3 : Nat) ≤ 9223372036854775807 by decide) (hs35.keep (Kept.made hm (by repeat (first | exact List.Mem.head _ | apply List.Mem.tail)) hm35 (hm35.base (by simp)).size))) (.cons (tySeg_mk (x := ⟨⟨#[85, 78, 84]⟩, [splitC (⟨#[55]⟩), splitC (⟨#[49]⟩)]⟩) rfl (show (3 : Nat) ≤ 9223372036854775807 by decide) (hs37.keep (Kept.made hm (by repeat (first | exact List.Mem.head _ | apply List.Mem.tail)) hm37 (hm37.base (by simp)).size))) (.nil)))))))) hm (.head _) (by repeat (first | exact List.Mem.head _ | apply List.Mem.tail)) rfl (show (7 : Nat) ≤ maxLen by decide)⟩
          refine t_gr (Q := fun _ _ _ => False) ?_ t_nil
          refine x_buildSliceL (cs := [Value.string (⟨#[55]⟩), Value.string (⟨#[49]⟩)]) rfl rfl rfl Tryd.underlying25 sz9 zr9 rfl rfl rfl ?_
          intro p36
          refine x_end ?_
          refine t_gr (Q := fun _ _ _ => False) ?_ t_nil
          refine x_call (R := fun v wa wb => ∃ A c, v = .agg #[.string ⟨#[66, 71, 77]⟩, .slice A 2 c] ∧ sliceRd (tySlice tyStr) (fun b => wa.heap.size ≤ b) wb (.slice A 2 c) [splitC (⟨#[50, 50, 48]⟩), splitC (itoaS o.id)]) rfl rfl rfl Tryd.func31 (by kernel_rfl) rfl (fun w1 hw1 => (c_segment (es := [⟨#[50, 50, 48]⟩, itoaS o.id]) (D := fun _ => True) ⟨#[66, 71, 77]⟩ w1 (rowS_rd (e := 9) (r := some (p11, [Value.string (⟨#[50, 50, 48]⟩), Value.string (itoaS o.id)], 2)) (n := 2) (rowOK_lit rfl (by decide)) rfl (fun s hs => ok_of (z11 s hs)) hw1 (fun q hq => by rw [List.mem_singleton.1 hq]; exact (by repeat (first | exact List.Mem.head _ | apply List.Mem.tail))) (fun _ _ => trivial)) (fun s hs => Nat.le_trans (z11 s hs) (by decide)) (by show 2 ≤ 1000; decide) (hL.later (hw1.base (by simp)))).mono fun e w2 ⟨u, h1, h2, h3⟩ => seg_out h1 h2 h3) ?_
          intro v12 wa12 wb12 hm12 hl12 hR12
          obtain ⟨A12, c12, rfl, hs12⟩ := hR12
          refine x_end ?_
          refine t_flt (Q := fun _ _ _ => False) ?_
          refine x_callv rfl rfl rfl Tryd.func33 (by kernel_rfl) rfl (fun w1 hw1 => c_article o.src o.num w1 hok.2.2.1 hok.2.2.2.1 (hL.later (hw1.base (by simp)))) ?_
          refine x_end ?_
          refine t_gr (Q := fun _ _ _ => False) ?_ t_nil
          refine x_buildSliceL (cs := [Value.string (⟨#[49]⟩), Value.string (⟨#[]⟩), Value.string (artS o.src o.num)]) rfl rfl rfl Tryd.underlying25 sz9 zr9 rfl rfl rfl ?_
          intro p16
          refine x_end ?_
          refine t_gr (Q := fun _ _ _ => False) ?_ t_nil
          refine x_call (R := fun v wa wb => ∃ A c, v = .agg #[.string ⟨#[76, 73, 78]⟩, .slice A 3 c] ∧ sliceRd (tySlice tyStr) (fun b => wa.heap.size ≤ b) wb (.slice A 3 c) [splitC (⟨#[49]⟩), splitC (⟨#[]⟩), splitC (artS o.src o.num)]) rfl rfl rfl Tryd.func31 (by kernel_rfl) rfl (fun w1 hw1 => (c_segment (es := [⟨#[49]⟩, ⟨#[]⟩, artS o.src o.num]) (D := fun _ => True) ⟨#[76, 73, 78]⟩ w1 (rowS_rd (e := 9) (r := some (p16, [Value.string (⟨#[49]⟩), Value.string (⟨#[]⟩), Value.string (artS o.src o.num)], 3)) (n := 3) (rowOK_lit rfl (by decide)) rfl (fun s hs => ok_of (z16 s hs)) hw1 (fun q hq => by rw [List.mem_singleton.1 hq]; exact (by repeat (first | exact List.Mem.head _ | apply List.Mem.tail))) (fun _ _ => trivial)) (fun s hs => Nat.le_trans (z16 s hs) (by decide)) (by show 3 ≤ 1000; decide) (hL.later (hw1.base (by simp)))).mono fun e w2 ⟨u, h1, h2, h3⟩ => seg_out h1 h2 h3) ?_
          intro v17 wa17 wb17 hm17 hl17 hR17
          obtain ⟨A17, c17, rfl, hs17⟩ := hR17
          refine x_end ?_
          refine t_flt (Q := fun _ _ _ => False) ?_
          refine x_callv rfl rfl rfl Tryd.func32 (by kernel_rfl) rfl (fun w1 hw1 => c_number o.copies w1 hok.2.2.2.2.1 (hL.later (hw1.base (by simp)))) ?_
          refine x_end ?_
          refine t_flt (Q := fun _ _ _ => False) ?_
          refine x_val rfl rfl rfl (v_sadd rfl rfl (by show 3 + (itoaS _).size ≤ _; omega)) ?_
          refine x_end ?_
          refine t_gr (Q := fun _ _ _ => False) ?_ t_nil
          refine x_buildSliceL (cs := [Value.string ((⟨#[50, 49, 58]⟩ : ByteArray) ++ itoaS o.copies)]) rfl rfl rfl Tryd.underlying25 sz9 zr9 rfl rfl rfl ?_
          intro p22
          refine x_end ?_
          refine t_gr (Q := fun _ _ _ => False) ?_ t_nil
          refine x_call (R := fun v wa wb => ∃ A c, v = .agg #[.string ⟨#[81, 84, 89]⟩, .slice A 1 c] ∧ sliceRd (tySlice tyStr) (fun b => wa.heap.size ≤ b) wb (.slice A 1 c) [splitC ((⟨#[50, 49, 58]⟩ : ByteArray) ++ itoaS o.copies)]) rfl rfl rfl Tryd.func31 (by kernel_rfl) rfl (fun w1 hw1 => (c_segment (es := [(⟨#[50, 49, 58]⟩ : ByteArray) ++ itoaS o.copies]) (D := fun _ => True) ⟨#[81, 84, 89]⟩ w1 (rowS_rd (e := 9) (r := some (p22, [Value.string ((⟨#[50, 49, 58]⟩ : ByteArray) ++ itoaS o.copies)], 1)) (n := 1) (rowOK_lit rfl (by decide)) rfl (fun s hs => ok_of (z22 s hs)) hw1 (fun q hq => by rw [List.mem_singleton.1 hq]; exact (by repeat (first | exact List.Mem.head _ | apply List.Mem.tail))) (fun _ _ => trivial)) (fun s hs => Nat.le_trans (z22 s hs) (by decide)) (by show 1 ≤ 1000; decide) (hL.later (hw1.base (by simp)))).mono fun e w2 ⟨u, h1, h2, h3⟩ => seg_out h1 h2 h3) ?_
          intro v23 wa23 wb23 hm23 hl23 hR23
          obtain ⟨A23, c23, rfl, hs23⟩ := hR23
          refine x_end ?_
          refine t_flt (Q := fun _ _ _ => False) ?_
          refine x_callv rfl rfl rfl Tryd.func32 (by kernel_rfl) rfl (fun w1 hw1 => c_number o.price w1 hok.2.2.2.2.2 (hL.later (hw1.base (by simp)))) ?_
          refine x_end ?_
          refine t_flt (Q := fun _ _ _ => False) ?_
          refine x_val rfl rfl rfl (v_sadd rfl rfl (by show 4 + (itoaS _).size ≤ _; omega)) ?_
          refine x_end ?_
          refine t_gr (Q := fun _ _ _ => False) ?_ t_nil
          refine x_buildSliceL (cs := [Value.string ((⟨#[65, 65, 65, 58]⟩ : ByteArray) ++ itoaS o.price)]) rfl rfl rfl Tryd.underlying25 sz9 zr9 rfl rfl rfl ?_
          intro p28
          refine x_end ?_
          refine t_gr (Q := fun _ _ _ => False) ?_ t_nil
          refine x_call (R := fun v wa wb => ∃ A c, v = .agg #[.string ⟨#[80, 82, 73]⟩, .slice A 1 c] ∧ sliceRd (tySlice tyStr) (fun b => wa.heap.size ≤ b) wb (.slice A 1 c) [splitC ((⟨#[65, 65, 65, 58]⟩ : ByteArray) ++ itoaS o.price)]) rfl rfl rfl Tryd.func31 (by kernel_rfl) rfl (fun w1 hw1 => (c_segment (es := [(⟨#[65, 65, 65, 58]⟩ : ByteArray) ++ itoaS o.price]) (D := fun _ => True) ⟨#[80, 82, 73]⟩ w1 (rowS_rd (e := 9) (r := some (p28, [Value.string ((⟨#[65, 65, 65, 58]⟩ : ByteArray) ++ itoaS o.price)], 1)) (n := 1) (rowOK_lit rfl (by decide)) rfl (fun s hs => ok_of (z28 s hs)) hw1 (fun q hq => by rw [List.mem_singleton.1 hq]; exact (by repeat (first | exact List.Mem.head _ | apply List.Mem.tail))) (fun _ _ => trivial)) (fun s hs => Nat.le_trans (z28 s hs) (by decide)) (by show 1 ≤ 1000; decide) (hL.later (hw1.base (by simp)))).mono fun e w2 ⟨u, h1, h2, h3⟩ => seg_out h1 h2 h3) ?_
          intro v29 wa29 wb29 hm29 hl29 hR29
          obtain ⟨A29, c29, rfl, hs29⟩ := hR29
          refine x_end ?_
          refine t_flt (Q := fun _ _ _ => False) ?_
          refine x_callv rfl rfl rfl Tryd.func32 (by kernel_rfl) rfl (fun w1 hw1 => c_number o.fund w1 hok.2.1 (hL.later (hw1.base (by simp)))) ?_
          refine x_end ?_
          refine t_flt (Q := fun _ _ _ => False) ?_
          refine x_val rfl rfl rfl (v_sadd rfl rfl (by show 4 + (itoaS _).size ≤ _; omega)) ?_
          refine x_end ?_
          refine t_gr (Q := fun _ _ _ => False) ?_ t_nil
          refine x_buildSliceL (cs := [Value.string ((⟨#[66, 70, 78, 58]⟩ : ByteArray) ++ itoaS o.fund)]) rfl rfl rfl Tryd.underlying25 sz9 zr9 rfl rfl rfl ?_
          intro p34
          refine x_end ?_
          refine t_gr (Q := fun _ _ _ => False) ?_ t_nil
          refine x_call (R := fun v wa wb => ∃ A c, v = .agg #[.string ⟨#[82, 70, 70]⟩, .slice A 1 c] ∧ sliceRd (tySlice tyStr) (fun b => wa.heap.size ≤ b) wb (.slice A 1 c) [splitC ((⟨#[66, 70, 78, 58]⟩ : ByteArray) ++ itoaS o.fund)]) rfl rfl rfl Tryd.func31 (by kernel_rfl) rfl (fun w1 hw1 => (c_segment (es := [(⟨#[66, 70, 78, 58]⟩ : ByteArray) ++ itoaS o.fund]) (D := fun _ => True) ⟨#[82, 70, 70]⟩ w1 (rowS_rd (e := 9) (r := some (p34, [Value.string ((⟨#[66, 70, 78, 58]⟩ : ByteArray) ++ itoaS o.fund)], 1)) (n := 1) (rowOK_lit rfl (by decide)) rfl (fun s hs => ok_of (z34 s hs)) hw1 (fun q hq => by rw [List.mem_singleton.1 hq]; exact (by repeat (first | exact List.Mem.head _ | apply List.Mem.tail))) (fun _ _ => trivial)) (fun s hs => Nat.le_trans (z34 s hs) (by decide)) (by show 1 ≤ 1000; decide) (hL.later (hw1.base (by simp)))).mono fun e w2 ⟨u, h1, h2, h3⟩ => seg_out h1 h2 h3) ?_
          intro v35 wa35 wb35 hm35 hl35 hR35
          obtain ⟨A35, c35, rfl, hs35⟩ := hR35
          refine x_end ?_
          refine t_gr (Q := fun _ _ _ => False) ?_ t_nil
          refine x_call (R := fun v wa wb => ∃ A c, v = .agg #[.string ⟨#[85, 78, 84]⟩, .slice A 2 c] ∧ sliceRd (tySlice tyStr) (fun b => wa.heap.size ≤ b) wb (.slice A 2 c) [splitC (⟨#[55]⟩), splitC (⟨#[49]⟩)]) rfl rfl rfl Tryd.func31 (by kernel_rfl) rfl (fun w1 hw1 => (c_segment (es := [⟨#[55]⟩, ⟨#[49]⟩]) (D := fun _ => True) ⟨#[85, 78, 84]⟩ w1 (rowS_rd (e := 9) (r := some (p36, [Value.string (⟨#[55]⟩), Value.string (⟨#[49]⟩)], 2)) (n := 2) (rowOK_lit rfl (by decide)) rfl (fun s hs => ok_of (z36 s hs)) hw1 (fun q hq => by rw [List.mem_singleton.1 hq]; exact (by repeat (first | exact List.Mem.head _ | apply List.Mem.tail))) (fun _ _ => trivial)) (fun s hs => Nat.le_trans (z36 s hs) (by decide)) (by show 2 ≤ 1000; decide) (hL.later (hw1.base (by simp)))).mono fun e w2 ⟨u, h1, h2, h3⟩ => seg_out h1 h2 h3) ?_
          intro v37 wa37 wb37 hm37 hl37 hR37
          obtain ⟨A37, c37, rfl, hs37⟩ := hR37
          refine x_end ?_
          refine t_gr (Q := fun _ _ _ => False) ?_ t_nil
          refine x_buildSliceL (cs := ([[Value.string ⟨#[85, 78, 72]⟩, .slice A7 2 c7], [Value.string ⟨#[66, 71, 77]⟩, .slice A12 2 c12], [Value.string ⟨#[76, 73, 78]⟩, .slice A17 3 c17], [Value.string ⟨#[81, 84, 89]⟩, .slice A23 1 c23], [Value.string ⟨#[80, 82, 73]⟩, .slice A29 1 c29], [Value.string ⟨#[82, 70, 70]⟩, .slice A35 1 c35], [Value.string ⟨#[85, 78, 84]⟩, .slice A37 2 c37]] : List (List Value)).flatten) rfl rfl rfl Tryd.underlying26 sz40 zr40 rfl rfl rfl ?_
          intro p38
          refine x_end ?_
          refine t_flt (Q := fun _ _ _ => False) ?_
          refine x_val rfl rfl rfl (v_assign rfl) ?_
          refine x_end ?_
          refine t_done ?_
          refine x_end ?_
          refine t_norm ?_
          refine w_ret ?_
          refine ret1 rfl rfl (fun w' hm => ?_)
          rw [show orderR o = orderP o from by unfold orderR; rw [if_pos hw]]
          exact ⟨_, rfl, hm.base (by simp), RdAll.rd (e := 40) (css := [[Value.string ⟨#[85, 78, 72]⟩, .slice A7 2 c7], [Value.string ⟨#[66, 71, 77]⟩, .slice A12 2 c12], [Value.string ⟨#[76, 73, 78]⟩, .slice A17 3 c17], [Value.string ⟨#[81, 84, 89]⟩, .slice A23 1 c23], [Value.string ⟨#[80, 82, 73]⟩, .slice A29 1 c29], [Value.string ⟨#[82, 70, 70]⟩, .slice A35 1 c35], [Value.string ⟨#[85, 78, 84]⟩, .slice A37 2 c37]]) (xs := orderP o) (.cons (tySeg_mk (x := ⟨⟨#[85, 78, 72]⟩, [splitC (⟨#[49]⟩), splitC (⟨#[79, 82, 68, 69, 82, 83, 58, 68, 58, 57, 54, 65, 58, 85, 78]⟩)]⟩) rfl (show (3 : Nat) ≤ 9223372036854775807 by decide) (hs7.keep (Kept.made hm (by repeat (first | exact List.Mem.head _ | apply List.Mem.tail)) hm7 (hm7.base (by simp)).size))) (.cons (tySeg_mk (x := ⟨⟨#[66, 71, 77]⟩, [splitC (⟨#[50, 50, 48]⟩), splitC (itoaS o.id)]⟩) rfl (show (3 : Nat) ≤ 9223372036854775807 by decide) (hs12.keep (Kept.made hm (by repeat (first | exact List.Mem.head _ | apply List.Mem.tail)) hm12 (hm12.base (by simp)).size))) (.cons (tySeg_mk (x := ⟨⟨#[76, 73, 78]⟩, [splitC (⟨#[49]⟩), splitC (⟨#[]⟩), splitC (artS o.src o.num)]⟩) rfl (show (3 : Nat) ≤ 9223372036854775807 by decide) (hs17.keep (Kept.made hm (by repeat (first | exact List.Mem.head _ | apply List.Mem.tail)) hm17 (hm17.base (by simp)).size))) (.cons (tySeg_mk (x := ⟨⟨#[81, 84, 89]⟩, [splitC ((⟨#[50, 49, 58]⟩ : ByteArray) ++ itoaS o.copies)]⟩) rfl (show (3 : Nat) ≤ 9223372036854775807 by decide) (hs23.keep (Kept.made hm (by repeat (first | exact List.Mem.head _ | apply List.Mem.tail)) hm23 (hm23.base (by simp)).size))) (.cons (tySeg_mk (x := ⟨⟨#[80, 82, 73]⟩, [splitC ((⟨#[65, 65, 65, 58]⟩ : ByteArray) ++ itoaS o.price)]⟩) rfl (show (3 : Nat) ≤ 9223372036854775807 by decide) (hs29.keep (Kept.made hm (by repeat (first | exact List.Mem.head _ | apply List.Mem.tail)) hm29 (hm29.base (by simp)).size))) (.cons (tySeg_mk (x := ⟨⟨#[82, 70, 70]⟩, [splitC ((⟨#[66, 70, 78, 58]⟩ : ByteArray) ++ itoaS o.fund)]⟩) rfl (show (3 : Nat) ≤ 9223372036854775807 by decide) (hs35.keep (Kept.made hm (by repeat (first | exact List.Mem.head _ | apply List.Mem.tail)) hm35 (hm35.base (by simp)).size))) (.cons (tySeg_mk (x := ⟨⟨#[85, 78, 84]⟩, [splitC (⟨#[55]⟩), splitC (⟨#[49]⟩)]⟩) rfl (show (3 : Nat) ≤ 9223372036854775807 by decide) (hs37.keep (Kept.made hm (by repeat (first | exact List.Mem.head _ | apply List.Mem.tail)) hm37 (hm37.base (by simp)).size))) (.nil)))))))) hm (.head _) (by repeat (first | exact List.Mem.head _ | apply List.Mem.tail)) rfl (show (7 : Nat) ≤ maxLen by decide)⟩
        refine t_gr (Q := fun _ _ _ => False) ?_ t_nil
        refine x_buildSliceL (cs := [Value.string (⟨#[55]⟩), Value.string (⟨#[49]⟩)]) rfl rfl rfl Tryd.underlying25 sz9 zr9 rfl rfl rfl ?_
        intro p36
        refine x_end ?_
        refine t_gr (Q := fun _ _ _ => False) ?_ t_nil
        refine x_buildSliceL (cs := [Value.string (⟨#[50, 50, 48]⟩), Value.string (itoaS o.id)]) rfl rfl rfl Tryd.underlying25 sz9 zr9 rfl rfl rfl ?_
        intro p11
        refine x_end ?_
        refine t_gr (Q := fun _ _ _ => False) ?_ t_nil
        refine x_call (R := fun v wa wb => ∃ A c, v = .agg #[.string ⟨#[66, 71, 77]⟩, .slice A 2 c] ∧ sliceRd (tySlice tyStr) (fun b => wa.heap.size ≤ b) wb (.slice A 2 c) [splitC (⟨#[50, 50, 48]⟩), splitC (itoaS o.id)]) rfl rfl rfl Tryd.func31 (by kernel_rfl) rfl (fun w1 hw1 => (c_segment (es := [⟨#[50, 50, 48]⟩, itoaS o.id]) (D := fun _ => True) ⟨#[66, 71, 77]⟩ w1 (rowS_rd (e := 9) (r := some (p11, [Value.string (⟨#[50, 50, 48]⟩), Value.string (itoaS o.id)], 2)) (n := 2) (rowOK_lit rfl (by decide)) rfl (fun s hs => ok_of (z11 s hs)) hw1 (fun q hq => by rw [List.mem_singleton.1 hq]; exact (by repeat (first | exact List.Mem.head _ | apply List.Mem.tail))) (fun _ _ => trivial)) (fun s hs => Nat.le_trans (z11 s hs) (by decide)) (by show 2 ≤ 1000; decide) (hL.later (hw1.base (by simp)))).mono fun e w2 ⟨u, h1, h2, h3⟩ => seg_out h1 h2 h3) ?_
        intro v12 wa12 wb12 hm12 hl12 hR12
        obtain ⟨A12, c12, rfl, hs12⟩ := hR12
        refine x_end ?_
        refine t_flt (Q := fun _ _ _ => False) ?_
        refine x_callv rfl rfl rfl Tryd.func33 (by kernel_rfl) rfl (fun w1 hw1 => c_article o.src o.num w1 hok.2.2.1 hok.2.2.2.1 (hL.later (hw1.base (by simp)))) ?_
        refine x_end ?_
        refine t_gr (Q := fun _ _ _ => False) ?_ t_nil
        refine x_buildSliceL (cs := [Value.string (⟨#[49]⟩), Value.string (⟨#[]⟩), Value.string (artS o.src o.num)]) rfl rfl rfl Tryd.underlying25 sz9 zr9 rfl rfl rfl ?_
        intro p16
        refine x_end ?_
        refine t_gr (Q := fun _ _ _ => False) ?_ t_nil
        refine x_call (R := fun v wa wb => ∃ A c, v = .agg #[.string ⟨#[76, 73, 78]⟩, .slice A 3 c] ∧ sliceRd (tySlice tyStr) (fun b => wa.heap.size ≤ b) wb (.slice A 3 c) [splitC (⟨#[49]⟩), splitC (⟨#[]⟩), splitC (artS o.src o.num)]) rfl rfl rfl Tryd.func31 (by kernel_rfl) rfl (fun w1 hw1 => (c_segment (es := [⟨#[49]⟩, ⟨#[]⟩, artS o.src o.num]) (D := fun _ => True) ⟨#[76, 73, 78]⟩ w1 (rowS_rd (e := 9) (r := some (p16, [Value.string (⟨#[49]⟩), Value.string (⟨#[]⟩), Value.string (artS o.src o.num)], 3)) (n := 3) (rowOK_lit rfl (by decide)) rfl (fun s hs => ok_of (z16 s hs)) hw1 (fun q hq => by rw [List.mem_singleton.1 hq]; exact (by repeat (first | exact List.Mem.head _ | apply List.Mem.tail))) (fun _ _ => trivial)) (fun s hs => Nat.le_trans (z16 s hs) (by decide)) (by show 3 ≤ 1000; decide) (hL.later (hw1.base (by simp)))).mono fun e w2 ⟨u, h1, h2, h3⟩ => seg_out h1 h2 h3) ?_
        intro v17 wa17 wb17 hm17 hl17 hR17
        obtain ⟨A17, c17, rfl, hs17⟩ := hR17
        refine x_end ?_
        refine t_flt (Q := fun _ _ _ => False) ?_
        refine x_callv rfl rfl rfl Tryd.func32 (by kernel_rfl) rfl (fun w1 hw1 => c_number o.copies w1 hok.2.2.2.2.1 (hL.later (hw1.base (by simp)))) ?_
        refine x_end ?_
        refine t_flt (Q := fun _ _ _ => False) ?_
        refine x_val rfl rfl rfl (v_sadd rfl rfl (by show 3 + (itoaS _).size ≤ _; omega)) ?_
        refine x_end ?_
        refine t_gr (Q := fun _ _ _ => False) ?_ t_nil
        refine x_buildSliceL (cs := [Value.string ((⟨#[50, 49, 58]⟩ : ByteArray) ++ itoaS o.copies)]) rfl rfl rfl Tryd.underlying25 sz9 zr9 rfl rfl rfl ?_
        intro p22
        refine x_end ?_
        refine t_gr (Q := fun _ _ _ => False) ?_ t_nil
        refine x_call (R := fun v wa wb => ∃ A c, v = .agg #[.string ⟨#[81, 84, 89]⟩, .slice A 1 c] ∧ sliceRd (tySlice tyStr) (fun b => wa.heap.size ≤ b) wb (.slice A 1 c) [splitC ((⟨#[50, 49, 58]⟩ : ByteArray) ++ itoaS o.copies)]) rfl rfl rfl Tryd.func31 (by kernel_rfl) rfl (fun w1 hw1 => (c_segment (es := [(⟨#[50, 49, 58]⟩ : ByteArray) ++ itoaS o.copies]) (D := fun _ => True) ⟨#[81, 84, 89]⟩ w1 (rowS_rd (e := 9) (r := some (p22, [Value.string ((⟨#[50, 49, 58]⟩ : ByteArray) ++ itoaS o.copies)], 1)) (n := 1) (rowOK_lit rfl (by decide)) rfl (fun s hs => ok_of (z22 s hs)) hw1 (fun q hq => by rw [List.mem_singleton.1 hq]; exact (by repeat (first | exact List.Mem.head _ | apply List.Mem.tail))) (fun _ _ => trivial)) (fun s hs => Nat.le_trans (z22 s hs) (by decide)) (by show 1 ≤ 1000; decide) (hL.later (hw1.base (by simp)))).mono fun e w2 ⟨u, h1, h2, h3⟩ => seg_out h1 h2 h3) ?_
        intro v23 wa23 wb23 hm23 hl23 hR23
        obtain ⟨A23, c23, rfl, hs23⟩ := hR23
        refine x_end ?_
        refine t_flt (Q := fun _ _ _ => False) ?_
        refine x_callv rfl rfl rfl Tryd.func32 (by kernel_rfl) rfl (fun w1 hw1 => c_number o.price w1 hok.2.2.2.2.2 (hL.later (hw1.base (by simp)))) ?_
        refine x_end ?_
        refine t_flt (Q := fun _ _ _ => False) ?_
        refine x_val rfl rfl rfl (v_sadd rfl rfl (by show 4 + (itoaS _).size ≤ _; omega)) ?_
        refine x_end ?_
        refine t_gr (Q := fun _ _ _ => False) ?_ t_nil
        refine x_buildSliceL (cs := [Value.string ((⟨#[65, 65, 65, 58]⟩ : ByteArray) ++ itoaS o.price)]) rfl rfl rfl Tryd.underlying25 sz9 zr9 rfl rfl rfl ?_
        intro p28
        refine x_end ?_
        refine t_gr (Q := fun _ _ _ => False) ?_ t_nil
        refine x_call (R := fun v wa wb => ∃ A c, v = .agg #[.string ⟨#[80, 82, 73]⟩, .slice A 1 c] ∧ sliceRd (tySlice tyStr) (fun b => wa.heap.size ≤ b) wb (.slice A 1 c) [splitC ((⟨#[65, 65, 65, 58]⟩ : ByteArray) ++ itoaS o.price)]) rfl rfl rfl Tryd.func31 (by kernel_rfl) rfl (fun w1 hw1 => (c_segment (es := [(⟨#[65, 65, 65, 58]⟩ : ByteArray) ++ itoaS o.price]) (D := fun _ => True) ⟨#[80, 82, 73]⟩ w1 (rowS_rd (e := 9) (r := some (p28, [Value.string ((⟨#[65, 65, 65, 58]⟩ : ByteArray) ++ itoaS o.price)], 1)) (n := 1) (rowOK_lit rfl (by decide)) rfl (fun s hs => ok_of (z28 s hs)) hw1 (fun q hq => by rw [List.mem_singleton.1 hq]; exact (by repeat (first | exact List.Mem.head _ | apply List.Mem.tail))) (fun _ _ => trivial)) (fun s hs => Nat.le_trans (z28 s hs) (by decide)) (by show 1 ≤ 1000; decide) (hL.later (hw1.base (by simp)))).mono fun e w2 ⟨u, h1, h2, h3⟩ => seg_out h1 h2 h3) ?_
        intro v29 wa29 wb29 hm29 hl29 hR29
        obtain ⟨A29, c29, rfl, hs29⟩ := hR29
        refine x_end ?_
        refine t_flt (Q := fun _ _ _ => False) ?_
        refine x_callv rfl rfl rfl Tryd.func32 (by kernel_rfl) rfl (fun w1 hw1 => c_number o.fund w1 hok.2.1 (hL.later (hw1.base (by simp)))) ?_
        refine x_end ?_
        refine t_flt (Q := fun _ _ _ => False) ?_
        refine x_val rfl rfl rfl (v_sadd rfl rfl (by show 4 + (itoaS _).size ≤ _; omega)) ?_
        refine x_end ?_
        refine t_gr (Q := fun _ _ _ => False) ?_ t_nil
        refine x_buildSliceL (cs := [Value.string ((⟨#[66, 70, 78, 58]⟩ : ByteArray) ++ itoaS o.fund)]) rfl rfl rfl Tryd.underlying25 sz9 zr9 rfl rfl rfl ?_
        intro p34
        refine x_end ?_
        refine t_gr (Q := fun _ _ _ => False) ?_ t_nil
        refine x_call (R := fun v wa wb => ∃ A c, v = .agg #[.string ⟨#[82, 70, 70]⟩, .slice A 1 c] ∧ sliceRd (tySlice tyStr) (fun b => wa.heap.size ≤ b) wb (.slice A 1 c) [splitC ((⟨#[66, 70, 78, 58]⟩ : ByteArray) ++ itoaS o.fund)]) rfl rfl rfl Tryd.func31 (by kernel_rfl) rfl (fun w1 hw1 => (c_segment (es := [(⟨#[66, 70, 78, 58]⟩ : ByteArray) ++ itoaS o.fund]) (D := fun _ => True) ⟨#[82, 70, 70]⟩ w1 (rowS_rd (e := 9) (r := some (p34, [Value.string ((⟨#[66, 70, 78, 58]⟩ : ByteArray) ++ itoaS o.fund)], 1)) (n := 1) (rowOK_lit rfl (by decide)) rfl (fun s hs => ok_of (z34 s hs)) hw1 (fun q hq => by rw [List.mem_singleton.1 hq]; exact (by repeat (first | exact List.Mem.head _ | apply List.Mem.tail))) (fun _ _ => trivial)) (fun s hs => Nat.le_trans (z34 s hs) (by decide)) (by show 1 ≤ 1000; decide) (hL.later (hw1.base (by simp)))).mono fun e w2 ⟨u, h1, h2, h3⟩ => seg_out h1 h2 h3) ?_
        intro v35 wa35 wb35 hm35 hl35 hR35
        obtain ⟨A35, c35, rfl, hs35⟩ := hR35
        refine x_end ?_
        refine t_gr (Q := fun _ _ _ => False) ?_ t_nil
        refine x_call (R := fun v wa wb => ∃ A c, v = .agg #[.string ⟨#[85, 78, 84]⟩, .slice A 2 c] ∧ sliceRd (tySlice tyStr) (fun b => wa.heap.size ≤ b) wb (.slice A 2 c) [splitC (⟨#[55]⟩), splitC (⟨#[49]⟩)]) rfl rfl rfl Tryd.func31 (by kernel_rfl) rfl (fun w1 hw1 => (c_segment (es := [⟨#[55]⟩, ⟨#[49]⟩]) (D := fun _ => True) ⟨#[85, 78, 84]⟩ w1 (rowS_rd (e := 9) (r := some (p36, [Value.string (⟨#[55]⟩), Value.string (⟨#[49]⟩)], 2)) (n := 2) (rowOK_lit rfl (by decide)) rfl (fun s hs => ok_of (z36 s hs)) hw1 (fun q hq => by rw [List.mem_singleton.1 hq]; exact (by repeat (first | exact List.Mem.head _ | apply List.Mem.tail))) (fun _ _ => trivial)) (fun s hs => Nat.le_trans (z36 s hs) (by decide)) (by show 2 ≤ 1000; decide) (hL.later (hw1.base (by simp)))).mono fun e w2 ⟨u, h1, h2, h3⟩ => seg_out h1 h2 h3) ?_
        intro v37 wa37 wb37 hm37 hl37 hR37
        obtain ⟨A37, c37, rfl, hs37⟩ := hR37
        refine x_end ?_
        refine t_gr (Q := fun _ _ _ => False) ?_ t_nil
        refine x_buildSliceL (cs := ([[Value.string ⟨#[85, 78, 72]⟩, .slice A7 2 c7], [Value.string ⟨#[66, 71, 77]⟩, .slice A12 2 c12], [Value.string ⟨#[76, 73, 78]⟩, .slice A17 3 c17], [Value.string ⟨#[81, 84, 89]⟩, .slice A23 1 c23], [Value.string ⟨#[80, 82, 73]⟩, .slice A29 1 c29], [Value.string ⟨#[82, 70, 70]⟩, .slice A35 1 c35], [Value.string ⟨#[85, 78, 84]⟩, .slice A37 2 c37]] : List (List Value)).flatten) rfl rfl rfl Tryd.underlying26 sz40 zr40 rfl rfl rfl ?_
        intro p38
        refine x_end ?_
        refine t_flt (Q := fun _ _ _ => False) ?_
        refine x_val rfl rfl rfl (v_assign rfl) ?_
        refine x_end ?_
        refine t_done ?_
        refine x_end ?_
        refine t_norm ?_
        refine w_ret ?_
        refine ret1 rfl rfl (fun w' hm => ?_)
        rw [show orderR o = orderP o from by unfold orderR; rw [if_pos hw]]
        exact ⟨_, rfl, hm.base (by simp), RdAll.rd (e := 40) (css := [[Value.string ⟨#[85, 78, 72]⟩, .slice A7 2 c7], [Value.string ⟨#[66, 71, 77]⟩, .slice A12 2 c12], [Value.string ⟨#[76, 73, 78]⟩, .slice A17 3 c17], [Value.string ⟨#[81, 84, 89]⟩, .slice A23 1 c23], [Value.string ⟨#[80, 82, 73]⟩, .slice A29 1 c29], [Value.string ⟨#[82, 70, 70]⟩, .slice A35 1 c35], [Value.string ⟨#[85, 78, 84]⟩, .slice A37 2 c37]]) (xs := orderP o) (.cons (tySeg_mk (x := ⟨⟨#[85, 78, 72]⟩, [splitC (⟨#[49]⟩), splitC (⟨#[79, 82, 68, 69, 82, 83, 58, 68, 58, 57, 54, 65, 58, 85, 78]⟩)]⟩) rfl (show (3 : Nat) ≤ 9223372036854775807 by decide) (hs7.keep (Kept.made hm (by repeat (first | exact List.Mem.head _ | apply List.Mem.tail)) hm7 (hm7.base (by simp)).size))) (.cons (tySeg_mk (x := ⟨⟨#[66, 71, 77]⟩, [splitC (⟨#[50, 50, 48]⟩), splitC (itoaS o.id)]⟩) rfl (show (3 : Nat) ≤ 9223372036854775807 by decide) (hs12.keep (Kept.made hm (by repeat (first | exact List.Mem.head _ | apply List.Mem.tail)) hm12 (hm12.base (by simp)).size))) (.cons (tySeg_mk (x := ⟨⟨#[76, 73, 78]⟩, [splitC (⟨#[49]⟩), splitC (⟨#[]⟩), splitC (artS o.src o.num)]⟩) rfl (show (3 : Nat) ≤ 9223372036854775807 by decide) (hs17.keep (Kept.made hm (by repeat (first | exact List.Mem.head _ | apply List.Mem.tail)) hm17 (hm17.base (by simp)).size))) (.cons (tySeg_mk (x := ⟨⟨#[81, 84, 89]⟩, [splitC ((⟨#[50, 49, 58]⟩ : ByteArray) ++ itoaS o.copies)]⟩) rfl (show (3 : Nat) ≤ 9223372036854775807 by decide) (hs23.keep (Kept.made hm (by repeat (first | exact List.Mem.head _ | apply List.Mem.tail)) hm23 (hm23.base (by simp)).size))) (.cons (tySeg_mk (x := ⟨⟨#[80, 82, 73]⟩, [splitC ((⟨#[65, 65, 65, 58]⟩ : ByteArray) ++ itoaS o.price)]⟩) rfl (show (3 : Nat) ≤ 9223372036854775807 by decide) (hs29.keep (Kept.made hm (by repeat (first | exact List.Mem.head _ | apply List.Mem.tail)) hm29 (hm29.base (by simp)).size))) (.cons (tySeg_mk (x := ⟨⟨#[82, 70, 70]⟩, [splitC ((⟨#[66, 70, 78, 58]⟩ : ByteArray) ++ itoaS o.fund)]⟩) rfl (show (3 : Nat) ≤ 9223372036854775807 by decide) (hs35.keep (Kept.made hm (by repeat (first | exact List.Mem.head _ | apply List.Mem.tail)) hm35 (hm35.base (by simp)).size))) (.cons (tySeg_mk (x := ⟨⟨#[85, 78, 84]⟩, [splitC (⟨#[55]⟩), splitC (⟨#[49]⟩)]⟩) rfl (show (3 : Nat) ≤ 9223372036854775807 by decide) (hs37.keep (Kept.made hm (by repeat (first | exact List.Mem.head _ | apply List.Mem.tail)) hm37 (hm37.base (by simp)).size))) (.nil)))))))) hm (.head _) (by repeat (first | exact List.Mem.head _ | apply List.Mem.tail)) rfl (show (7 : Nat) ≤ maxLen by decide)⟩
      refine t_gr (Q := fun _ _ _ => False) ?_ t_nil
      refine x_buildSliceL (cs := [Value.string (⟨#[55]⟩), Value.string (⟨#[49]⟩)]) rfl rfl rfl Tryd.underlying25 sz9 zr9 rfl rfl rfl ?_
      intro p36
      refine x_end ?_
      refine t_gr (Q := fun _ _ _ => False) ?_ t_nil
      refine x_call (R := fun v wa wb => ∃ A c, v = .agg #[.string ⟨#[85, 78, 72]⟩, .slice A 2 c] ∧ sliceRd (tySlice tyStr) (fun b => wa.heap.size ≤ b) wb (.slice A 2 c) [splitC (⟨#[49]⟩), splitC (⟨#[79, 82, 68, 69, 82, 83, 58, 68, 58, 57, 54, 65, 58, 85, 78]⟩)]) rfl rfl rfl Tryd.func31 (by kernel_rfl) rfl (fun w1 hw1 => (c_segment (es := [⟨#[49]⟩, ⟨#[79, 82, 68, 69, 82, 83, 58, 68, 58, 57, 54, 65, 58, 85, 78]⟩]) (D := fun _ => True) ⟨#[85, 78, 72]⟩ w1 (rowS_rd (e := 9) (r := some (p6, [Value.string (⟨#[49]⟩), Value.string (⟨#[79, 82, 68, 69, 82, 83, 58, 68, 58, 57, 54, 65, 58, 85, 78]⟩)], 2)) (n := 2) (rowOK_lit rfl (by decide)) rfl (fun s hs => ok_of (z6 s hs)) hw1 (fun q hq => by rw [List.mem_singleton.1 hq]; exact (by repeat (first | exact List.Mem.head _ | apply List.Mem.tail))) (fun _ _ => trivial)) (fun s hs => Nat.le_trans (z6 s hs) (by decide)) (by show 2 ≤ 1000; decide) (hL.later (hw1.base (by simp)))).mono fun e w2 ⟨u, h1, h2, h3⟩ => seg_out h1 h2 h3) ?_
      intro v7 wa7 wb7 hm7 hl7 hR7
      obtain ⟨A7, c7, rfl, hs7⟩ := hR7
      refine x_end ?_
      refine t_flt (Q := fun _ _ _ => False) ?_
      refine x_callv rfl rfl rfl Tryd.func32 (by kernel_rfl) rfl (fun w1 hw1 => c_number o.id w1 hok.1 (hL.later (hw1.base (by simp)))) ?_
      refine x_end ?_
      refine t_gr (Q := fun _ _ _ => False) ?_ t_nil
      refine x_buildSliceL (cs := [Value.string (⟨#[50, 50, 48]⟩), Value.string (itoaS o.id)]) rfl rfl rfl Tryd.underlying25 sz9 zr9 rfl rfl rfl ?_
      intro p11
      refine x_end ?_
      refine t_gr (Q := fun _ _ _ => False) ?_ t_nil
      refine x_call (R := fun v wa wb => ∃ A c, v = .agg #[.string ⟨#[66, 71, 77]⟩, .slice A 2 c] ∧ sliceRd (tySlice tyStr) (fun b => wa.heap.size ≤ b) wb (.slice A 2 c) [splitC (⟨#[50, 50, 48]⟩), splitC (itoaS o.id)]) rfl rfl rfl Tryd.func31 (by kernel_rfl) rfl (fun w1 hw1 => (c_segment (es := [⟨#[50, 50, 48]⟩, itoaS o.id]) (D := fun _ => True) ⟨#[66, 71, 77]⟩ w1 (rowS_rd (e := 9) (r := some (p11, [Value.string (⟨#[50, 50, 48]⟩), Value.string (itoaS o.id)], 2)) (n := 2) (rowOK_lit rfl (by decide)) rfl (fun s hs => ok_of (z11 s hs)) hw1 (fun q hq => by rw [List.mem_singleton.1 hq]; exact (by repeat (first | exact List.Mem.head _ | apply List.Mem.tail))) (fun _ _ => trivial)) (fun s hs => Nat.le_trans (z11 s hs) (by decide)) (by show 2 ≤ 1000; decide) (hL.later (hw1.base (by simp)))).mono fun e w2 ⟨u, h1, h2, h3⟩ => seg_out h1 h2 h3) ?_
      intro v12 wa12 wb12 hm12 hl12 hR12
      obtain ⟨A12, c12, rfl, hs12⟩ := hR12
      refine x_end ?_
      refine t_flt (Q := fun _ _ _ => False) ?_
      refine x_callv rfl rfl rfl Tryd.func33 (by kernel_rfl) rfl (fun w1 hw1 => c_article o.src o.num w1 hok.2.2.1 hok.2.2.2.1 (hL.later (hw1.base (by simp)))) ?_
      refine x_end ?_
      refine t_gr (Q := fun _ _ _ => False) ?_ t_nil
      refine x_buildSliceL (cs := [Value.string (⟨#[49]⟩), Value.string (⟨#[]⟩), Value.string (artS o.src o.num)]) rfl rfl rfl Tryd.underlying25 sz9 zr9 rfl rfl rfl ?_
      intro p16
      refine x_end ?_
      refine t_gr (Q := fun _ _ _ => False) ?_ t_nil
      refine x_call (R := fun v wa wb => ∃ A c, v = .agg #[.string ⟨#[76, 73, 78]⟩, .slice A 3 c] ∧ sliceRd (tySlice tyStr) (fun b => wa.heap.size ≤ b) wb (.slice A 3 c) [splitC (⟨#[49]⟩), splitC (⟨#[]⟩), splitC (artS o.src o.num)]) rfl rfl rfl Tryd.func31 (by kernel_rfl) rfl (fun w1 hw1 => (c_segment (es := [⟨#[49]⟩, ⟨#[]⟩, artS o.src o.num]) (D := fun _ => True) ⟨#[76, 73, 78]⟩ w1 (rowS_rd (e := 9) (r := some (p16, [Value.string (⟨#[49]⟩), Value.string (⟨#[]⟩), Value.string (artS o.src o.num)], 3)) (n := 3) (rowOK_lit rfl (by decide)) rfl (fun s hs => ok_of (z16 s hs)) hw1 (fun q hq => by rw [List.mem_singleton.1 hq]; exact (by repeat (first | exact List.Mem.head _ | apply List.Mem.tail))) (fun _ _ => trivial)) (fun s hs => Nat.le_trans (z16 s hs) (by decide)) (by show 3 ≤ 1000; decide) (hL.later (hw1.base (by simp)))).mono fun e w2 ⟨u, h1, h2, h3⟩ => seg_out h1 h2 h3) ?_
      intro v17 wa17 wb17 hm17 hl17 hR17
      obtain ⟨A17, c17, rfl, hs17⟩ := hR17
      refine x_end ?_
      refine t_flt (Q := fun _ _ _ => False) ?_
      refine x_callv rfl rfl rfl Tryd.func32 (by kernel_rfl) rfl (fun w1 hw1 => c_number o.copies w1 hok.2.2.2.2.1 (hL.later (hw1.base (by simp)))) ?_
      refine x_end ?_
      refine t_flt (Q := fun _ _ _ => False) ?_
      refine x_val rfl rfl rfl (v_sadd rfl rfl (by show 3 + (itoaS _).size ≤ _; omega)) ?_
      refine x_end ?_
      refine t_gr (Q := fun _ _ _ => False) ?_ t_nil
      refine x_buildSliceL (cs := [Value.string ((⟨#[50, 49, 58]⟩ : ByteArray) ++ itoaS o.copies)]) rfl rfl rfl Tryd.underlying25 sz9 zr9 rfl rfl rfl ?_
      intro p22
      refine x_end ?_
      refine t_gr (Q := fun _ _ _ => False) ?_ t_nil
      refine x_call (R := fun v wa wb => ∃ A c, v = .agg #[.string ⟨#[81, 84, 89]⟩, .slice A 1 c] ∧ sliceRd (tySlice tyStr) (fun b => wa.heap.size ≤ b) wb (.slice A 1 c) [splitC ((⟨#[50, 49, 58]⟩ : ByteArray) ++ itoaS o.copies)]) rfl rfl rfl Tryd.func31 (by kernel_rfl) rfl (fun w1 hw1 => (c_segment (es := [(⟨#[50, 49, 58]⟩ : ByteArray) ++ itoaS o.copies]) (D := fun _ => True) ⟨#[81, 84, 89]⟩ w1 (rowS_rd (e := 9) (r := some (p22, [Value.string ((⟨#[50, 49, 58]⟩ : ByteArray) ++ itoaS o.copies)], 1)) (n := 1) (rowOK_lit rfl (by decide)) rfl (fun s hs => ok_of (z22 s hs)) hw1 (fun q hq => by rw [List.mem_singleton.1 hq]; exact (by repeat (first | exact List.Mem.head _ | apply List.Mem.tail))) (fun _ _ => trivial)) (fun s hs => Nat.le_trans (z22 s hs) (by decide)) (by show 1 ≤ 1000; decide) (hL.later (hw1.base (by simp)))).mono fun e w2 ⟨u, h1, h2, h3⟩ => seg_out h1 h2 h3) ?_
      intro v23 wa23 wb23 hm23 hl23 hR23
      obtain ⟨A23, c23, rfl, hs23⟩ := hR23
      refine x_end ?_
      refine t_flt (Q := fun _ _ _ => False) ?_
      refine x_callv rfl rfl rfl Tryd.func32 (by kernel_rfl) rfl (fun w1 hw1 => c_number o.price w1 hok.2.2.2.2.2 (hL.later (hw1.base (by simp)))) ?_
      refine x_end ?_
      refine t_flt (Q := fun _ _ _ => False) ?_
      refine x_val rfl rfl rfl (v_sadd rfl rfl (by show 4 + (itoaS _).size ≤ _; omega)) ?_
      refine x_end ?_
      refine t_gr (Q := fun _ _ _ => False) ?_ t_nil
      refine x_buildSliceL (cs := [Value.string ((⟨#[65, 65, 65, 58]⟩ : ByteArray) ++ itoaS o.price)]) rfl rfl rfl Tryd.underlying25 sz9 zr9 rfl rfl rfl ?_
      intro p28
      refine x_end ?_
      refine t_gr (Q := fun _ _ _ => False) ?_ t_nil
      refine x_call (R := fun v wa wb => ∃ A c, v = .agg #[.string ⟨#[80, 82, 73]⟩, .slice A 1 c] ∧ sliceRd (tySlice tyStr) (fun b => wa.heap.size ≤ b) wb (.slice A 1 c) [splitC ((⟨#[65, 65, 65, 58]⟩ : ByteArray) ++ itoaS o.price)]) rfl rfl rfl Tryd.func31 (by kernel_rfl) rfl (fun w1 hw1 => (c_segment (es := [(⟨#[65, 65, 65, 58]⟩ : ByteArray) ++ itoaS o.price]) (D := fun _ => True) ⟨#[80, 82, 73]⟩ w1 (rowS_rd (e := 9) (r := some (p28, [Value.string ((⟨#[65, 65, 65, 58]⟩ : ByteArray) ++ itoaS o.price)], 1)) (n := 1) (rowOK_lit rfl (by decide)) rfl (fun s hs => ok_of (z28 s hs)) hw1 (fun q hq => by rw [List.mem_singleton.1 hq]; exact (by repeat (first | exact List.Mem.head _ | apply List.Mem.tail))) (fun _ _ => trivial)) (fun s hs => Nat.le_trans (z28 s hs) (by decide)) (by show 1 ≤ 1000; decide) (hL.later (hw1.base (by simp)))).mono fun e w2 ⟨u, h1, h2, h3⟩ => seg_out h1 h2 h3) ?_
      intro v29 wa29 wb29 hm29 hl29 hR29
      obtain ⟨A29, c29, rfl, hs29⟩ := hR29
      refine x_end ?_
      refine t_flt (Q := fun _ _ _ => False) ?_
      refine x_callv rfl rfl rfl Tryd.func32 (by kernel_rfl) rfl (fun w1 hw1 => c_number o.fund w1 hok.2.1 (hL.later (hw1.base (by simp)))) ?_
      refine x_end ?_
      refine t_flt (Q := fun _ _ _ => False) ?_
      refine x_val rfl rfl rfl (v_sadd rfl rfl (by show 4 + (itoaS _).size ≤ _; omega)) ?_
      refine x_end ?_
      refine t_gr (Q := fun _ _ _ => False) ?_ t_nil
      refine x_buildSliceL (cs := [Value.string ((⟨#[66, 70, 78, 58]⟩ : ByteArray) ++ itoaS o.fund)]) rfl rfl rfl Tryd.underlying25 sz9 zr9 rfl rfl rfl ?_
      intro p34
      refine x_end ?_
      refine t_gr (Q := fun _ _ _ => False) ?_ t_nil
      refine x_call (R := fun v wa wb => ∃ A c, v = .agg #[.string ⟨#[82, 70, 70]⟩, .slice A 1 c] ∧ sliceRd (tySlice tyStr) (fun b => wa.heap.size ≤ b) wb (.slice A 1 c) [splitC ((⟨#[66, 70, 78, 58]⟩ : ByteArray) ++ itoaS o.fund)]) rfl rfl rfl Tryd.func31 (by kernel_rfl) rfl (fun w1 hw1 => (c_segment (es := [(⟨#[66, 70, 78, 58]⟩ : ByteArray) ++ itoaS o.fund]) (D := fun _ => True) ⟨#[82, 70, 70]⟩ w1 (rowS_rd (e := 9) (r := some (p34, [Value.string ((⟨#[66, 70, 78, 58]⟩ : ByteArray) ++ itoaS o.fund)], 1)) (n := 1) (rowOK_lit rfl (by decide)) rfl (fun s hs => ok_of (z34 s hs)) hw1 (fun q hq => by rw [List.mem_singleton.1 hq]; exact (by repeat (first | exact List.Mem.head _ | apply List.Mem.tail))) (fun _ _ => trivial)) (fun s hs => Nat.le_trans (z34 s hs) (by decide)) (by show 1 ≤ 1000; decide) (hL.later (hw1.base (by simp)))).mono fun e w2 ⟨u, h1, h2, h3⟩ => seg_out h1 h2 h3) ?_
      intro v35 wa35 wb35 hm35 hl35 hR35
      obtain ⟨A35, c35, rfl, hs35⟩ := hR35
      refine x_end ?_
      refine t_gr (Q := fun _ _ _ => False) ?_ t_nil
      refine x_call (R := fun v wa wb => ∃ A c, v = .agg #[.string ⟨#[85, 78, 84]⟩, .slice A 2 c] ∧ sliceRd (tySlice tyStr) (fun b => wa.heap.size ≤ b) wb (.slice A 2 c) [splitC (⟨#[55]⟩), splitC (⟨#[49]⟩)]) rfl rfl rfl Tryd.func31 (by kernel_rfl) rfl (fun w1 hw1 => (c_segment (es := [⟨#[55]⟩, ⟨#[49]⟩]) (D := fun _ => True) ⟨#[85, 78, 84]⟩ w1 (rowS_rd (e := 9) (r := some (p36, [Value.string (⟨#[55]⟩), Value.string (⟨#[49]⟩)], 2)) (n := 2) (rowOK_lit rfl (by decide)) rfl (fun s hs => ok_of (z36 s hs)) hw1 (fun q hq => by rw [List.mem_singleton.1 hq]; exact (by repeat (first | exact List.Mem.head _ | apply List.Mem.tail))) (fun _ _ => trivial)) (fun s hs => Nat.le_trans (z36 s hs) (by decide)) (by show 2 ≤ 1000; decide) (hL.later (hw1.base (by simp)))).mono fun e w2 ⟨u, h1, h2, h3⟩ => seg_out h1 h2 h3) ?_
      intro v37 wa37 wb37 hm37 hl37 hR37
      obtain ⟨A37, c37, rfl, hs37⟩ := hR37
      refine x_end ?_
      refine t_gr (Q := fun _ _ _ => False) ?_ t_nil
      refine x_buildSliceL (cs := ([[Value.string ⟨#[85, 78, 72]⟩, .slice A7 2 c7], [Value.string ⟨#[66, 71, 77]⟩, .slice A12 2 c12], [Value.string ⟨#[76, 73, 78]⟩, .slice A17 3 c17], [Value.string ⟨#[81, 84, 89]⟩, .slice A23 1 c23], [Value.string ⟨#[80, 82, 73]⟩, .slice A29 1 c29], [Value.string ⟨#[82, 70, 70]⟩, .slice A35 1 c35], [Value.string ⟨#[85, 78, 84]⟩, .slice A37 2 c37]] : List (List Value)).flatten) rfl rfl rfl Tryd.underlying26 sz40 zr40 rfl rfl rfl ?_
      intro p38
      refine x_end ?_
      refine t_flt (Q := fun _ _ _ => False) ?_
      refine x_val rfl rfl rfl (v_assign rfl) ?_
      refine x_end ?_
      refine t_done ?_
      refine x_end ?_
      refine t_norm ?_
      refine w_ret ?_
      refine ret1 rfl rfl (fun w' hm => ?_)
      rw [show orderR o = orderP o from by unfold orderR; rw [if_pos hw]]
      exact ⟨_, rfl, hm.base (by simp), RdAll.rd (e := 40) (css := [[Value.string ⟨#[85, 78, 72]⟩, .slice A7 2 c7], [Value.string ⟨#[66, 71, 77]⟩, .slice A12 2 c12], [Value.string ⟨#[76, 73, 78]⟩, .slice A17 3 c17], [Value.string ⟨#[81, 84, 89]⟩, .slice A23 1 c23], [Value.string ⟨#[80, 82, 73]⟩, .slice A29 1 c29], [Value.string ⟨#[82, 70, 70]⟩, .slice A35 1 c35], [Value.string ⟨#[85, 78, 84]⟩, .slice A37 2 c37]]) (xs := orderP o) (.cons (tySeg_mk (x := ⟨⟨#[85, 78, 72]⟩, [splitC (⟨#[49]⟩), splitC (⟨#[79, 82, 68, 69, 82, 83, 58, 68, 58, 57, 54, 65, 58, 85, 78]⟩)]⟩) rfl (show (3 : Nat) ≤ 9223372036854775807 by decide) (hs7.keep (Kept.made hm (by repeat (first | exact List.Mem.head _ | apply List.Mem.tail)) hm7 (hm7.base (by simp)).size))) (.cons (tySeg_mk (x := ⟨⟨#[66, 71, 77]⟩, [splitC (⟨#[50, 50, 48]⟩), splitC (itoaS o.id)]⟩) rfl (show (3 : Nat) ≤ 9223372036854775807 by decide) (hs12.keep (Kept.made hm (by repeat (first | exact List.Mem.head _ | apply List.Mem.tail)) hm12 (hm12.base (by simp)).size))) (.cons (tySeg_mk (x := ⟨⟨#[76, 73, 78]⟩, [splitC (⟨#[49]⟩), splitC (⟨#[]⟩), splitC (artS o.src o.num)]⟩) rfl (show (3 : Nat) ≤ 9223372036854775807 by decide) (hs17.keep (Kept.made hm (by repeat (first | exact List.Mem.head _ | apply List.Mem.tail)) hm17 (hm17.base (by simp)).size))) (.cons (tySeg_mk (x := ⟨⟨#[81, 84, 89]⟩, [splitC ((⟨#[50, 49, 58]⟩ : ByteArray) ++ itoaS o.copies)]⟩) rfl (show (3 : Nat) ≤ 9223372036854775807 by decide) (hs23.keep (Kept.made hm (by repeat (first | exact List.Mem.head _ | apply List.Mem.tail)) hm23 (hm23.base (by simp)).size))) (.cons (tySeg_mk (x := ⟨⟨#[80, 82, 73]⟩, [splitC ((⟨#[65, 65, 65, 58]⟩ : ByteArray) ++ itoaS o.price)]⟩) rfl (show (3 : Nat) ≤ 9223372036854775807 by decide) (hs29.keep (Kept.made hm (by repeat (first | exact List.Mem.head _ | apply List.Mem.tail)) hm29 (hm29.base (by simp)).size))) (.cons (tySeg_mk (x := ⟨⟨#[82, 70, 70]⟩, [splitC ((⟨#[66, 70, 78, 58]⟩ : ByteArray) ++ itoaS o.fund)]⟩) rfl (show (3 : Nat) ≤ 9223372036854775807 by decide) (hs35.keep (Kept.made hm (by repeat (first | exact List.Mem.head _ | apply List.Mem.tail)) hm35 (hm35.base (by simp)).size))) (.cons (tySeg_mk (x := ⟨⟨#[85, 78, 84]⟩, [splitC (⟨#[55]⟩), splitC (⟨#[49]⟩)]⟩) rfl (show (3 : Nat) ≤ 9223372036854775807 by decide) (hs37.keep (Kept.made hm (by repeat (first | exact List.Mem.head _ | apply List.Mem.tail)) hm37 (hm37.base (by simp)).size))) (.nil)))))))) hm (.head _) (by repeat (first | exact List.Mem.head _ | apply List.Mem.tail)) rfl (show (7 : Nat) ≤ maxLen by decide)⟩
    refine t_gr (Q := fun _ _ _ => False) ?_ t_nil
    refine x_buildSliceL (cs := [Value.string (⟨#[55]⟩), Value.string (⟨#[49]⟩)]) rfl rfl rfl Tryd.underlying25 sz9 zr9 rfl rfl rfl ?_
    intro p36
    refine x_end ?_
    refine t_gr (Q := fun _ _ _ => False) ?_ t_nil
    refine x_buildSliceL (cs := [Value.string (⟨#[49]⟩), Value.string (⟨#[79, 82, 68, 69, 82, 83, 58, 68, 58, 57, 54, 65, 58, 85, 78]⟩)]) rfl rfl rfl Tryd.underlying25 sz9 zr9 rfl rfl rfl ?_
    intro p6
    refine x_end ?_
    refine t_gr (Q := fun _ _ _ => False) ?_ t_nil
    refine x_call (R := fun v wa wb => ∃ A c, v = .agg #[.string ⟨#[85, 78, 72]⟩, .slice A 2 c] ∧ sliceRd (tySlice tyStr) (fun b => wa.heap.size ≤ b) wb (.slice A 2 c) [splitC (⟨#[49]⟩), splitC (⟨#[79, 82, 68, 69, 82, 83, 58, 68, 58, 57, 54, 65, 58, 85, 78]⟩)]) rfl rfl rfl Tryd.func31 (by kernel_rfl) rfl (fun w1 hw1 => (c_segment (es := [⟨#[49]⟩, ⟨#[79, 82, 68, 69, 82, 83, 58, 68, 58, 57, 54, 65, 58, 85, 78]⟩]) (D := fun _ => True) ⟨#[85, 78, 72]⟩ w1 (rowS_rd (e := 9) (r := some (p6, [Value.string (⟨#[49]⟩), Value.string (⟨#[79, 82, 68, 69, 82, 83, 58, 68, 58, 57, 54, 65, 58, 85, 78]⟩)], 2)) (n := 2) (rowOK_lit rfl (by decide)) rfl (fun s hs => ok_of (z6 s hs)) hw1 (fun q hq => by rw [List.mem_singleton.1 hq]; exact (by repeat (first | exact List.Mem.head _ | apply List.Mem.tail))) (fun _ _ => trivial)) (fun s hs => Nat.le_trans (z6 s hs) (by decide)) (by show 2 ≤ 1000; decide) (hL.later (hw1.base (by simp)))).mono fun e w2 ⟨u, h1, h2, h3⟩ => seg_out h1 h2 h3) ?_
    intro v7 wa7 wb7 hm7 hl7 hR7
    obtain ⟨A7, c7, rfl, hs7⟩ := hR7
    refine x_end ?_
    refine t_flt (Q := fun _ _ _ => False) ?_
    refine x_callv rfl rfl rfl Tryd.func32 (by kernel_rfl) rfl (fun w1 hw1 => c_number o.id w1 hok.1 (hL.later (hw1.base (by simp)))) ?_
    refine x_end ?_
    refine t_gr (Q := fun _ _ _ => False) ?_ t_nil
    refine x_buildSliceL (cs := [Value.string (⟨#[50, 50, 48]⟩), Value.string (itoaS o.id)]) rfl rfl rfl Tryd.underlying25 sz9 zr9 rfl rfl rfl ?_
    intro p11
    refine x_end ?_
    refine t_gr (Q := fun _ _ _ => False) ?_ t_nil
    refine x_call (R := fun v wa wb => ∃ A c, v = .agg #[.string ⟨#[66, 71, 77]⟩, .slice A 2 c] ∧ sliceRd (tySlice tyStr) (fun b => wa.heap.size ≤ b) wb (.slice A 2 c) [splitC (⟨#[50, 50, 48]⟩), splitC (itoaS o.id)]) rfl rfl rfl Tryd.func31 (by kernel_rfl) rfl (fun w1 hw1 => (c_segment (es := [⟨#[50, 50, 48]⟩, itoaS o.id]) (D := fun _ => True) ⟨#[66, 71, 77]⟩ w1 (rowS_rd (e := 9) (r := some (p11, [Value.string (⟨#[50, 50, 48]⟩), Value.string (itoaS o.id)], 2)) (n := 2) (rowOK_lit rfl (by decide)) rfl (fun s hs => ok_of (z11 s hs)) hw1 (fun q hq => by rw [List.mem_singleton.1 hq]; exact (by repeat (first | exact List.Mem.head _ | apply List.Mem.tail))) (fun _ _ => trivial)) (fun s hs => Nat.le_trans (z11 s hs) (by decide)) (by show 2 ≤ 1000; decide) (hL.later (hw1.base (by simp)))).mono fun e w2 ⟨u, h1, h2, h3⟩ => seg_out h1 h2 h3) ?_
    intro v12 wa12 wb12 hm12 hl12 hR12
    obtain ⟨A12, c12, rfl, hs12⟩ := hR12
    refine x_end ?_
    refine t_flt (Q := fun _ _ _ => False) ?_
    refine x_callv rfl rfl rfl Tryd.func33 (by kernel_rfl) rfl (fun w1 hw1 => c_article o.src o.num w1 hok.2.2.1 hok.2.2.2.1 (hL.later (hw1.base (by simp)))) ?_
    refine x_end ?_
    refine t_gr (Q := fun _ _ _ => False) ?_ t_nil
    refine x_buildSliceL (cs := [Value.string (⟨#[49]⟩), Value.string (⟨#[]⟩), Value.string (artS o.src o.num)]) rfl rfl rfl Tryd.underlying25 sz9 zr9 rfl rfl rfl ?_
    intro p16
    refine x_end ?_
    refine t_gr (Q := fun _ _ _ => False) ?_ t_nil
    refine x_call (R := fun v wa wb => ∃ A c, v = .agg #[.string ⟨#[76, 73, 78]⟩, .slice A 3 c] ∧ sliceRd (tySlice tyStr) (fun b => wa.heap.size ≤ b) wb (.slice A 3 c) [splitC (⟨#[49]⟩), splitC (⟨#[]⟩), splitC (artS o.src o.num)]) rfl rfl rfl Tryd.func31 (by kernel_rfl) rfl (fun w1 hw1 => (c_segment (es := [⟨#[49]⟩, ⟨#[]⟩, artS o.src o.num]) (D := fun _ => True) ⟨#[76, 73, 78]⟩ w1 (rowS_rd (e := 9) (r := some (p16, [Value.string (⟨#[49]⟩), Value.string (⟨#[]⟩), Value.string (artS o.src o.num)], 3)) (n := 3) (rowOK_lit rfl (by decide)) rfl (fun s hs => ok_of (z16 s hs)) hw1 (fun q hq => by rw [List.mem_singleton.1 hq]; exact (by repeat (first | exact List.Mem.head _ | apply List.Mem.tail))) (fun _ _ => trivial)) (fun s hs => Nat.le_trans (z16 s hs) (by decide)) (by show 3 ≤ 1000; decide) (hL.later (hw1.base (by simp)))).mono fun e w2 ⟨u, h1, h2, h3⟩ => seg_out h1 h2 h3) ?_
    intro v17 wa17 wb17 hm17 hl17 hR17
    obtain ⟨A17, c17, rfl, hs17⟩ := hR17
    refine x_end ?_
    refine t_flt (Q := fun _ _ _ => False) ?_
    refine x_callv rfl rfl rfl Tryd.func32 (by kernel_rfl) rfl (fun w1 hw1 => c_number o.copies w1 hok.2.2.2.2.1 (hL.later (hw1.base (by simp)))) ?_
    refine x_end ?_
    refine t_flt (Q := fun _ _ _ => False) ?_
    refine x_val rfl rfl rfl (v_sadd rfl rfl (by show 3 + (itoaS _).size ≤ _; omega)) ?_
    refine x_end ?_
    refine t_gr (Q := fun _ _ _ => False) ?_ t_nil
    refine x_buildSliceL (cs := [Value.string ((⟨#[50, 49, 58]⟩ : ByteArray) ++ itoaS o.copies)]) rfl rfl rfl Tryd.underlying25 sz9 zr9 rfl rfl rfl ?_
    intro p22
    refine x_end ?_
    refine t_gr (Q := fun _ _ _ => False) ?_ t_nil
    refine x_call (R := fun v wa wb => ∃ A c, v = .agg #[.string ⟨#[81, 84, 89]⟩, .slice A 1 c] ∧ sliceRd (tySlice tyStr) (fun b => wa.heap.size ≤ b) wb (.slice A 1 c) [splitC ((⟨#[50, 49, 58]⟩ : ByteArray) ++ itoaS o.copies)]) rfl rfl rfl Tryd.func31 (by kernel_rfl) rfl (fun w1 hw1 => (c_segment (es := [(⟨#[50, 49, 58]⟩ : ByteArray) ++ itoaS o.copies]) (D := fun _ => True) ⟨#[81, 84, 89]⟩ w1 (rowS_rd (e := 9) (r := some (p22, [Value.string ((⟨#[50, 49, 58]⟩ : ByteArray) ++ itoaS o.copies)], 1)) (n := 1) (rowOK_lit rfl (by decide)) rfl (fun s hs => ok_of (z22 s hs)) hw1 (fun q hq => by rw [List.mem_singleton.1 hq]; exact (by repeat (first | exact List.Mem.head _ | apply List.Mem.tail))) (fun _ _ => trivial)) (fun s hs => Nat.le_trans (z22 s hs) (by decide)) (by show 1 ≤ 1000; decide) (hL.later (hw1.base (by simp)))).mono fun e w2 ⟨u, h1, h2, h3⟩ => seg_out h1 h2 h3) ?_
    intro v23 wa23 wb23 hm23 hl23 hR23
    obtain ⟨A23, c23, rfl, hs23⟩ := hR23
    refine x_end ?_
    refine t_flt (Q := fun _ _ _ => False) ?_
    refine x_callv rfl rfl rfl Tryd.func32 (by kernel_rfl) rfl (fun w1 hw1 => c_number o.price w1 hok.2.2.2.2.2 (hL.later (hw1.base (by simp)))) ?_
    refine x_end ?_
    refine t_flt (Q := fun _ _ _ => False) ?_
    refine x_val rfl rfl rfl (v_sadd rfl rfl (by show 4 + (itoaS _).size ≤ _; omega)) ?_
    refine x_end ?_
    refine t_gr (Q := fun _ _ _ => False) ?_ t_nil
    refine x_buildSliceL (cs := [Value.string ((⟨#[65, 65, 65, 58]⟩ : ByteArray) ++ itoaS o.price)]) rfl rfl rfl Tryd.underlying25 sz9 zr9 rfl rfl rfl ?_
    intro p28
    refine x_end ?_
    refine t_gr (Q := fun _ _ _ => False) ?_ t_nil
    refine x_call (R := fun v wa wb => ∃ A c, v = .agg #[.string ⟨#[80, 82, 73]⟩, .slice A 1 c] ∧ sliceRd (tySlice tyStr) (fun b => wa.heap.size ≤ b) wb (.slice A 1 c) [splitC ((⟨#[65, 65, 65, 58]⟩ : ByteArray) ++ itoaS o.price)]) rfl rfl rfl Tryd.func31 (by kernel_rfl) rfl (fun w1 hw1 => (c_segment (es := [(⟨#[65, 65, 65, 58]⟩ : ByteArray) ++ itoaS o.price]) (D := fun _ => True) ⟨#[80, 82, 73]⟩ w1 (rowS_rd (e := 9) (r := some (p28, [Value.string ((⟨#[65, 65, 65, 58]⟩ : ByteArray) ++ itoaS o.price)], 1)) (n := 1) (rowOK_lit rfl (by decide)) rfl (fun s hs => ok_of (z28 s hs)) hw1 (fun q hq => by rw [List.mem_singleton.1 hq]; exact (by repeat (first | exact List.Mem.head _ | apply List.Mem.tail))) (fun _ _ => trivial)) (fun s hs => Nat.le_trans (z28 s hs) (by decide)) (by show 1 ≤ 1000; decide) (hL.later (hw1.base (by simp)))).mono fun e w2 ⟨u, h1, h2, h3⟩ => seg_out h1 h2 h3) ?_
    intro v29 wa29 wb29 hm29 hl29 hR29
    obtain ⟨A29, c29, rfl, hs29⟩ := hR29
    refine x_end ?_
    refine t_flt (Q := fun _ _ _ => False) ?_
    refine x_callv rfl rfl rfl Tryd.func32 (by kernel_rfl) rfl (fun w1 hw1 => c_number o.fund w1 hok.2.1 (hL.later (hw1.base (by simp)))) ?_
    refine x_end ?_
    refine t_flt (Q := fun _ _ _ => False) ?_
    refine x_val rfl rfl rfl (v_sadd rfl rfl (by show 4 + (itoaS _).size ≤ _; omega)) ?_
    refine x_end ?_
    refine t_gr (Q := fun _ _ _ => False) ?_ t_nil
    refine x_buildSliceL (cs := [Value.string ((⟨#[66, 70, 78, 58]⟩ : ByteArray) ++ itoaS o.fund)]) rfl rfl rfl Tryd.underlying25 sz9 zr9 rfl rfl rfl ?_
    intro p34
    refine x_end ?_
    refine t_gr (Q := fun _ _ _ => False) ?_ t_nil
    refine x_call (R := fun v wa wb => ∃ A c, v = .agg #[.string ⟨#[82, 70, 70]⟩, .slice A 1 c] ∧ sliceRd (tySlice tyStr) (fun b => wa.heap.size ≤ b) wb (.slice A 1 c) [splitC ((⟨#[66, 70, 78, 58]⟩ : ByteArray) ++ itoaS o.fund)]) rfl rfl rfl Tryd.func31 (by kernel_rfl) rfl (fun w1 hw1 => (c_segment (es := [(⟨#[66, 70, 78, 58]⟩ : ByteArray) ++ itoaS o.fund]) (D := fun _ => True) ⟨#[82, 70, 70]⟩ w1 (rowS_rd (e := 9) (r := some (p34, [Value.string ((⟨#[66, 70, 78, 58]⟩ : ByteArray) ++ itoaS o.fund)], 1)) (n := 1) (rowOK_lit rfl (by decide)) rfl (fun s hs => ok_of (z34 s hs)) hw1 (fun q hq => by rw [List.mem_singleton.1 hq]; exact (by repeat (first | exact List.Mem.head _ | apply List.Mem.tail))) (fun _ _ => trivial)) (fun s hs => Nat.le_trans (z34 s hs) (by decide)) (by show 1 ≤ 1000; decide) (hL.later (hw1.base (by simp)))).mono fun e w2 ⟨u, h1, h2, h3⟩ => seg_out h1 h2 h3) ?_
    intro v35 wa35 wb35 hm35 hl35 hR35
    obtain ⟨A35, c35, rfl, hs35⟩ := hR35
    refine x_end ?_
    refine t_gr (Q := fun _ _ _ => False) ?_ t_nil
    refine x_call (R := fun v wa wb => ∃ A c, v = .agg #[.string ⟨#[85, 78, 84]⟩, .slice A 2 c] ∧ sliceRd (tySlice tyStr) (fun b => wa.heap.size ≤ b) wb (.slice A 2 c) [splitC (⟨#[55]⟩), splitC (⟨#[49]⟩)]) rfl rfl rfl Tryd.func31 (by kernel_rfl) rfl (fun w1 hw1 => (c_segment (es := [⟨#[55]⟩, ⟨#[49]⟩]) (D := fun _ => True) ⟨#[85, 78, 84]⟩ w1 (rowS_rd (e := 9) (r := some (p36, [Value.string (⟨#[55]⟩), Value.string (⟨#[49]⟩)], 2)) (n := 2) (rowOK_lit rfl (by decide)) rfl (fun s hs => ok_of (z36 s hs)) hw1 (fun q hq => by rw [List.mem_singleton.1 hq]; exact (by repeat (first | exact List.Mem.head _ | apply List.Mem.tail))) (fun _ _ => trivial)) (fun s hs => Nat.le_trans (z36 s hs) (by decide)) (by show 2 ≤ 1000; decide) (hL.later (hw1.base (by simp)))).mono fun e w2 ⟨u, h1, h2, h3⟩ => seg_out h1 h2 h3) ?_
    intro v37 wa37 wb37 hm37 hl37 hR37
    obtain ⟨A37, c37, rfl, hs37⟩ := hR37
    refine x_end ?_
    refine t_gr (Q := fun _ _ _ => False) ?_ t_nil
    refine x_buildSliceL (cs := ([[Value.string ⟨#[85, 78, 72]⟩, .slice A7 2 c7], [Value.string ⟨#[66, 71, 77]⟩, .slice A12 2 c12], [Value.string ⟨#[76, 73, 78]⟩, .slice A17 3 c17], [Value.string ⟨#[81, 84, 89]⟩, .slice A23 1 c23], [Value.string ⟨#[80, 82, 73]⟩, .slice A29 1 c29], [Value.string ⟨#[82, 70, 70]⟩, .slice A35 1 c35], [Value.string ⟨#[85, 78, 84]⟩, .slice A37 2 c37]] : List (List Value)).flatten) rfl rfl rfl Tryd.underlying26 sz40 zr40 rfl rfl rfl ?_
    intro p38
    refine x_end ?_
    refine t_flt (Q := fun _ _ _ => False) ?_
    refine x_val rfl rfl rfl (v_assign rfl) ?_
    refine x_end ?_
    refine t_done ?_
    refine x_end ?_
    refine t_norm ?_
    refine w_ret ?_
    refine ret1 rfl rfl (fun w' hm => ?_)
    rw [show orderR o = orderP o from by unfold orderR; rw [if_pos hw]]
    exact ⟨_, rfl, hm.base (by simp), RdAll.rd (e := 40) (css := [[Value.string ⟨#[85, 78, 72]⟩, .slice A7 2 c7], [Value.string ⟨#[66, 71, 77]⟩, .slice A12 2 c12], [Value.string ⟨#[76, 73, 78]⟩, .slice A17 3 c17], [Value.string ⟨#[81, 84, 89]⟩, .slice A23 1 c23], [Value.string ⟨#[80, 82, 73]⟩, .slice A29 1 c29], [Value.string ⟨#[82, 70, 70]⟩, .slice A35 1 c35], [Value.string ⟨#[85, 78, 84]⟩, .slice A37 2 c37]]) (xs := orderP o) (.cons (tySeg_mk (x := ⟨⟨#[85, 78, 72]⟩, [splitC (⟨#[49]⟩), splitC (⟨#[79, 82, 68, 69, 82, 83, 58, 68, 58, 57, 54, 65, 58, 85, 78]⟩)]⟩) rfl (show (3 : Nat) ≤ 9223372036854775807 by decide) (hs7.keep (Kept.made hm (by repeat (first | exact List.Mem.head _ | apply List.Mem.tail)) hm7 (hm7.base (by simp)).size))) (.cons (tySeg_mk (x := ⟨⟨#[66, 71, 77]⟩, [splitC (⟨#[50, 50, 48]⟩), splitC (itoaS o.id)]⟩) rfl (show (3 : Nat) ≤ 9223372036854775807 by decide) (hs12.keep (Kept.made hm (by repeat (first | exact List.Mem.head _ | apply List.Mem.tail)) hm12 (hm12.base (by simp)).size))) (.cons (tySeg_mk (x := ⟨⟨#[76, 73, 78]⟩, [splitC (⟨#[49]⟩), splitC (⟨#[]⟩), splitC (artS o.src o.num)]⟩) rfl (show (3 : Nat) ≤ 9223372036854775807 by decide) (hs17.keep (Kept.made hm (by repeat (first | exact List.Mem.head _ | apply List.Mem.tail)) hm17 (hm17.base (by simp)).size))) (.cons (tySeg_mk (x := ⟨⟨#[81, 84, 89]⟩, [splitC ((⟨#[50, 49, 58]⟩ : ByteArray) ++ itoaS o.copies)]⟩) rfl (show (3 : Nat) ≤ 9223372036854775807 by decide) (hs23.keep (Kept.made hm (by repeat (first | exact List.Mem.head _ | apply List.Mem.tail)) hm23 (hm23.base (by simp)).size))) (.cons (tySeg_mk (x := ⟨⟨#[80, 82, 73]⟩, [splitC ((⟨#[65, 65, 65, 58]⟩ : ByteArray) ++ itoaS o.price)]⟩) rfl (show (3 : Nat) ≤ 9223372036854775807 by decide) (hs29.keep (Kept.made hm (by repeat (first | exact List.Mem.head _ | apply List.Mem.tail)) hm29 (hm29.base (by simp)).size))) (.cons (tySeg_mk (x := ⟨⟨#[82, 70, 70]⟩, [splitC ((⟨#[66, 70, 78, 58]⟩ : ByteArray) ++ itoaS o.fund)]⟩) rfl (show (3 : Nat) ≤ 9223372036854775807 by decide) (hs35.keep (Kept.made hm (by repeat (first | exact List.Mem.head _ | apply List.Mem.tail)) hm35 (hm35.base (by simp)).size))) (.cons (tySeg_mk (x := ⟨⟨#[85, 78, 84]⟩, [splitC (⟨#[55]⟩), splitC (⟨#[49]⟩)]⟩) rfl (show (3 : Nat) ≤ 9223372036854775807 by decide) (hs37.keep (Kept.made hm (by repeat (first | exact List.Mem.head _ | apply List.Mem.tail)) hm37 (hm37.base (by simp)).size))) (.nil)))))))) hm (.head _) (by repeat (first | exact List.Mem.head _ | apply List.Mem.tail)) rfl (show (7 : Nat) ≤ maxLen by decide)⟩

end Go.Proofs.YtbamklefagghcaaDoor
