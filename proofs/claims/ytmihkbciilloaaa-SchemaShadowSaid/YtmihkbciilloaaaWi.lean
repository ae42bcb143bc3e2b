import Derived.Test.YtmihkbciilloaaaWh
import Derived.Test.YtmihkbciilloaaaWq
import Derived.Test.YtmihkbciilloaaaPkRead
namespace Go.Proofs.Ytmihkbciilloaaa
open Go.RowKit Go.PK
set_option linter.unusedVariables false
set_option linter.unusedSimpArgs false

theorem c18w {v0 v : Value} {rs : List Rl} {fs : List Fl} {D : Nat → Prop} {kd lv : Value} (w : World) (hrs : sliceRd tyRl D w v0 rs) (hfs : sliceRd tyFl D w v fs) (hbd : fs.length + rs.length < 8796093022208) :
    Calls Try.prog 18 #[v0, .agg #[kd, lv, v]] w fun e w' => ∃ v', e = .returned v' ∧ Later w w' ∧ sliceRd tyPb (fun b => w.heap.size ≤ b) w' v' (chk rs fs) ∧ ∃ r, v' = rowV r (chk rs fs).length :=
  Calls.mono (c18 w hrs hfs hbd) fun e w' ⟨v', h1, h2, r, h3, h4, own, h5⟩ => ⟨v', h1, h2, h3 ▸ row_rd h5 h4, r, h3⟩
theorem pb_ne {xs ys : List Pb} {k : Nat} (h1 : k < xs.length) (h2 : k < ys.length) (h : ¬(xs[k].field = ys[k].field ∧ xs[k].kind = ys[k].kind)) : decide (xs = ys) = false :=
  decide_eq_false fun e => h (by subst e; exact ⟨rfl, rfl⟩)
theorem pb_eq {a b : Pb} (h : a.field = b.field ∧ a.kind = b.kind) : a = b := by
  obtain ⟨x, y⟩ := a; obtain ⟨x', y'⟩ := b; obtain ⟨h1, h2⟩ := h; simp only at h1 h2; rw [h1, h2]
theorem c17 {v1 v2 : Value} {xs ys : List Pb} {D1 D2 : Nat → Prop} (w : World) (h1 : sliceRd tyPb D1 w v1 xs) (h2 : sliceRd tyPb D2 w v2 ys) :
    Calls Try.prog 17 #[v1, v2] w fun e w' => e = .returned (.bool (decide (xs = ys))) ∧ Later w w' := by
  obtain ⟨A, c, rfl, hlc, hmx, hA⟩ := h1
  obtain ⟨B, d, rfl, hld, hmy, hB⟩ := h2
  refine enter (vs := [.slice A xs.length c, .slice B ys.length d]) Try.func17 rfl Try.ntmps17 rfl ?_
  refine w_seq ?_
  refine rg_text ?_
  refine x_val rfl rfl rfl (v_assign rfl) ?_
  refine x_end ?_
  refine t_norm ?_
  refine w_seq ?_
  refine w_seq ?_
  refine rg_text ?_
  refine x_val rfl rfl rfl (v_move rfl) ?_
  refine x_val rfl rfl rfl (v_len_slice Try.underlying35 rfl) ?_
  refine x_val rfl rfl rfl (v_move rfl) ?_
  refine x_val rfl rfl rfl (v_len_slice Try.underlying35 rfl) ?_
  refine x_bool rfl rfl rfl (v_neq rfl rfl) ?_
  intro b10 hb10
  refine x_end ?_
  refine t_norm ?_
  refine w_cond rfl (fun hc10 => ?_) (fun hc10 => ?_)
  · simp only [hb10, decide_eq_true_eq, decide_eq_false_iff_not, Bool.and_eq_true, Bool.or_eq_true, Bool.and_eq_false_iff, Bool.or_eq_false_iff, Bool.not_eq_true', Bool.not_eq_false', ne_eq, Decidable.not_not] at hc10
    refine w_seq ?_
    refine rg_text ?_
    refine x_val rfl rfl rfl (v_assign rfl) ?_
    refine x_end ?_
    refine t_norm ?_
    refine w_ret ?_
    refine t_ret ?_
    refine ret1 rfl rfl (fun w' hm => ⟨?_, hm.base (by simp)⟩)
    rw [decide_eq_false (fun e => hc10 (by rw [e]))]
  · simp only [hb10, decide_eq_true_eq, decide_eq_false_iff_not, Bool.and_eq_true, Bool.or_eq_true, Bool.and_eq_false_iff, Bool.or_eq_false_iff, Bool.not_eq_true', Bool.not_eq_false', ne_eq, Decidable.not_not] at hc10
    refine w_skip ?_
    refine t_norm ?_
    refine w_seq ?_
    refine w_seq ?_
    refine rg_text ?_
    refine x_val rfl rfl rfl (v_assign rfl) ?_
    refine x_end ?_
    refine t_norm ?_
    refine w_block ?_
    refine w_loop (σ := Nat) (fun k => k ≤ xs.length ∧ xs.length = ys.length ∧ ∀ j (hj : j < xs.length) (hj2 : j < ys.length), j < k → xs[j] = ys[j]) (fun k => [(0, .slice A xs.length c), (1, .slice B ys.length d), (5, .int .i64 (k : Nat))]) (fun k => []) (fun k => [(w, fun _ => True)]) (fun k => xs.length - k) (0) (⟨Nat.zero_le _, by omega, by intros; omega⟩) (l_start (by repeat (first | exact Sub.nil | refine Sub.cons rfl ?_)) (fun _ h => h)) ?_
    rintro k ⟨hk, hl, hall⟩
    refine w_seq ?_
    refine w_seq ?_
    refine rg_text ?_
    refine x_val rfl rfl rfl (v_move rfl) ?_
    refine x_val rfl rfl rfl (v_move rfl) ?_
    refine x_val rfl rfl rfl (v_len_slice Try.underlying35 rfl) ?_
    refine x_bool rfl rfl rfl (v_lss rfl rfl) ?_
    intro b14 hb14
    refine x_end ?_
    refine t_norm ?_
    refine w_cond rfl (fun hc14 => ?_) (fun hc14 => ?_)
    · simp only [hb14, decide_eq_true_eq, decide_eq_false_iff_not, Bool.and_eq_true, Bool.or_eq_true, Bool.and_eq_false_iff, Bool.or_eq_false_iff, Bool.not_eq_true', Bool.not_eq_false', ne_eq, Decidable.not_not] at hc14
      have hk1 : k < xs.length := by omega
      have hk2 : k < ys.length := by omega
      obtain ⟨b0, o0, hv0, hD0, hb0, hcell0⟩ := hA (by omega)
      obtain ⟨cs0, hcs0, hrd0⟩ := hcell0 k hk1
      obtain ⟨b1, o1, hv1, hD1, hb1, hcell1⟩ := hB (by omega)
      obtain ⟨cs1, hcs1, hrd1⟩ := hcell1 k hk2
      subst hrd0 hrd1
      refine w_skip ?_
      refine t_norm ?_
      refine w_seq ?_
      refine w_block ?_
      refine w_seq ?_
      refine rg_draw 9 [(true, 0), (true, 1), (true, 2), (true, 3), (true, 4), (true, 5), (true, 6), (true, 7), (true, 8)] (by kernel_rfl) (by kernel_rfl) ?_
      refine x_val rfl rfl rfl (v_move rfl) ?_
      refine x_val rfl rfl rfl (v_move rfl) ?_
      refine x_val rfl rfl rfl (v_indexAddr Try.underlying35 sz54 (congrArg (fun A => some (Value.slice A xs.length c)) hv0) rfl (by first | omega | (dsimp only; omega)) rfl) ?_
      refine x_val rfl rfl rfl (v_loadN (vs := [.int .i64 xs[k].field, .int .i64 xs[k].kind]) Try.underlying54 rfl sz54 rfl (fun i hi => at_ro (.head _) trivial (hcs0 i hi))) ?_
      refine x_val rfl rfl rfl (v_move rfl) ?_
      refine x_val rfl rfl rfl (v_move rfl) ?_
      refine x_val rfl rfl rfl (v_indexAddr Try.underlying35 sz54 (congrArg (fun A => some (Value.slice A ys.length d)) hv1) rfl (by first | omega | (dsimp only; omega)) rfl) ?_
      refine x_val rfl rfl rfl (v_loadN (vs := [.int .i64 ys[k].field, .int .i64 ys[k].kind]) Try.underlying54 rfl sz54 rfl (fun i hi => at_ro (.head _) trivial (hcs1 i hi))) ?_
      refine x_bool rfl rfl rfl (v_neA (by kernel_rfl) rfl rfl (fun w1 => eq54 w1 _ _ _ _)) ?_
      intro b25 hb25
      refine x_end ?_
      refine t_norm ?_
      refine w_cond rfl (fun hc25 => ?_) (fun hc25 => ?_)
      · simp only [hb25, decide_eq_true_eq, decide_eq_false_iff_not, Bool.and_eq_true, Bool.or_eq_true, Bool.and_eq_false_iff, Bool.or_eq_false_iff, Bool.not_eq_true', Bool.not_eq_false', ne_eq, Decidable.not_not] at hc25
        refine w_seq ?_
        refine rg_text ?_
        refine x_val rfl rfl rfl (v_assign rfl) ?_
        refine x_end ?_
        refine t_norm ?_
        refine w_ret ?_
        refine b_ret ?_
        refine t_ret ?_
        refine t_ret ?_
        refine b_ret ?_
        refine t_ret ?_
        refine ret1 rfl rfl (fun w' hm => ⟨?_, hm.base (by simp)⟩)
        rw [pb_ne hk1 hk2 hc25]
      · simp only [hb25, decide_eq_true_eq, decide_eq_false_iff_not, Bool.and_eq_true, Bool.or_eq_true, Bool.and_eq_false_iff, Bool.or_eq_false_iff, Bool.not_eq_true', Bool.not_eq_false', ne_eq, Decidable.not_not] at hc25
        refine w_skip ?_
        refine b_norm ?_
        refine t_norm ?_
        refine rg_text ?_
        refine x_val rfl rfl rfl (v_move rfl) ?_
        refine x_val rfl rfl rfl (v_addi rfl rfl rfl (by first | omega | (dsimp only; omega))) ?_
        refine x_val rfl rfl rfl (v_assign rfl) ?_
        refine x_end ?_
        exact l_norm (k + 1) (⟨by omega, hl, fun j hj hj2 h => by rcases Nat.lt_succ_iff_lt_or_eq.1 h with h3 | rfl; exact hall j hj hj2 h3; exact pb_eq hc25⟩) (by omega) (by repeat (first | exact Sub.nil | refine Sub.cons rfl ?_)) (fun _ h => h)
    · simp only [hb14, decide_eq_true_eq, decide_eq_false_iff_not, Bool.and_eq_true, Bool.or_eq_true, Bool.and_eq_false_iff, Bool.or_eq_false_iff, Bool.not_eq_true', Bool.not_eq_false', ne_eq, Decidable.not_not] at hc14
      refine w_exit ?_
      refine t_exit ?_
      refine t_exit ?_
      refine b_hit ?_
      refine t_norm ?_
      refine w_seq ?_
      refine rg_text ?_
      refine x_val rfl rfl rfl (v_assign rfl) ?_
      refine x_end ?_
      refine t_norm ?_
      refine w_ret ?_
      refine ret1 rfl rfl (fun w' hm => ⟨?_, hm.base (by simp)⟩)
      rw [decide_eq_true (List.ext_getElem hl (fun j hj hj2 => hall j hj hj2 (by omega)))]
theorem c23 (t i x : ByteArray) (c : UInt8) (w : World) :
    Calls Try.prog 23 #[.string t, .string i, .int .u8 c.toNat, .string x] w fun e w' => ∃ v, e = .returned v ∧ Later w w' ∧ ∃ b, v = .agg #[.string t, .string i, .string ⟨#[]⟩, .slice (some ⟨b, 0, none⟩) 1 1] ∧ w.heap.size ≤ b ∧ w'.heap[b]? = some (.cells [.int .u8 c.toNat, .string x].toArray 48) := by
  refine enter (vs := [.string t, .string i, .int .u8 c.toNat, .string x]) Try.func23 rfl Try.ntmps23 rfl ?_
  refine w_seq ?_
  refine rg_text ?_
  refine x_alloc rfl rfl rfl zr46 ?_
  intro p8
  refine x_end ?_
  refine t_norm ?_
  refine w_seq ?_
  refine rg_text ?_
  refine x_val rfl rfl rfl (v_move rfl) ?_
  refine x_val rfl rfl rfl (v_move rfl) ?_
  refine x_val rfl rfl rfl (v_move rfl) ?_
  refine x_val rfl rfl rfl (v_move rfl) ?_
  refine x_val rfl rfl rfl (v_buildL (places := [(0, 1), (1, 1)]) Try.underlying48 zr48 (by kernel_rfl) rfl rfl) ?_
  refine x_buildSliceL rfl rfl rfl Try.underlying44 sz48 zr48 rfl rfl rfl ?_
  intro p14
  refine x_val rfl rfl rfl (v_buildL (places := [(0, 1), (1, 1), (2, 1), (3, 1)]) Try.underlying46 zr46 (by kernel_rfl) rfl rfl) ?_
  refine x_store0 [(p14, _)] rfl rfl rfl rfl sz46 rfl rfl ?_
  refine x_end ?_
  refine t_norm ?_
  refine w_ret ?_
  refine retc rfl rfl (.tail _ (.head _)) Try.underlying46 rfl sz46 (fun w' hm => ⟨_, rfl, hm.base (by simp), p14, rfl, hm.apart (_, _) (.head _) (w, fun _ => True) (by simp) trivial, hm.own_at (_, _) (.head _)⟩)
theorem c19 {v0 v : Value} {rs : List Rl} {fs : List Fl} {D : Nat → Prop} {kd lv : Value} (w : World) (hrs : sliceRd tyRl D w v0 rs) (hfs : sliceRd tyFl D w v fs) (hbd : fs.length + rs.length < 8796093022208) :
    Calls Try.prog 19 #[v0, .agg #[kd, lv, v]] w fun e w' => e = .returned (.bool (decide (chk rs fs = []))) ∧ Later w w' := by
  refine enter (vs := [v0, .agg #[kd, lv, v]]) Try.func19 rfl Try.ntmps19 rfl ?_
  refine w_seq ?_
  refine rg_text ?_
  refine x_box rfl rfl rfl rfl ?_
  intro p3
  refine x_val rfl rfl rfl (v_assign rfl) ?_
  refine x_end ?_
  refine t_norm ?_
  refine w_seq ?_
  refine rg_text ?_
  refine x_val rfl rfl rfl (v_move rfl) ?_
  refine x_val rfl rfl rfl (v_load_blk Try.underlying32 rfl rfl (by first | exact .head _ | exact .tail _ (.head _) | exact .tail _ (.tail _ (.head _)) | (repeat (first | exact List.Mem.head _ | apply List.Mem.tail | apply List.mem_append_right))) (by exact sz32)) ?_
  refine x_call rfl rfl rfl Try.func18 (by kernel_rfl) rfl (fun w1 hw1 => c18w w1 (hrs.keep (Kept.later (hw1.base (by simp)))) (hfs.keep (Kept.later (hw1.base (by simp)))) hbd) ?_
  intro v7 wa7 wb7 hm7 hl7 hr7
  obtain ⟨hrd7, r7, rfl⟩ := hr7
  refine x_val rfl rfl rfl (v_len_slice Try.underlying35 rfl) ?_
  refine x_bool rfl rfl rfl (v_eql rfl rfl) ?_
  intro b9 hb9
  refine x_val rfl rfl rfl (v_assign rfl) ?_
  refine x_end ?_
  refine t_norm ?_
  refine w_ret ?_
  refine ret1 rfl rfl (fun w' hm => ⟨?_, hm.base (by simp)⟩)
  rw [hb9]; congr 2; rw [Bool.eq_iff_iff]; simp

end Go.Proofs.Ytmihkbciilloaaa
