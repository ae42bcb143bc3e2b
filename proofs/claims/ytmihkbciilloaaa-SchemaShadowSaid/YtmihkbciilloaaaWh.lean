import Derived.Test.YtmihkbciilloaaaWg
namespace Go.Proofs.Ytmihkbciilloaaa
open Go.RowKit Go.PK
set_option linter.unusedVariables false
set_option linter.unusedSimpArgs false
set_option maxRecDepth 100000 in
theorem c12 (w : World) :
    Calls Try.prog 12 #[] w fun e w' => ∃ v, e = .returned v ∧ Later w w' ∧ ∃ b, v = .slice (some ⟨b, 0, none⟩) 24 24 ∧ w.heap.size ≤ b ∧ w'.heap[b]? = some (.cells (std.flatMap Rl.cells).toArray 27) := by
  refine enter (vs := []) Try.func12 rfl Try.ntmps12 rfl ?_
  refine w_seq ?_
  refine rg_text ?_
  refine x_val rfl rfl rfl (v_assign rfl) ?_
  refine x_end ?_
  refine t_norm ?_
  refine w_seq ?_
  refine rg_text ?_
  refine x_callv rfl rfl rfl Try.func26 (by kernel_rfl) rfl (fun w1 hw1 => c26 _ _ _ _ _ w1) ?_
  refine x_callv rfl rfl rfl Try.func25 (by kernel_rfl) rfl (fun w1 hw1 => c25 _ _ _ _ _ _ _ w1) ?_
  refine x_callv rfl rfl rfl Try.func24 (by kernel_rfl) rfl (fun w1 hw1 => c24 _ _ _ _ _ _ _ w1) ?_
  refine x_callv rfl rfl rfl Try.func26 (by kernel_rfl) rfl (fun w1 hw1 => c26 _ _ _ _ _ w1) ?_
  refine x_callv rfl rfl rfl Try.func25 (by kernel_rfl) rfl (fun w1 hw1 => c25 _ _ _ _ _ _ _ w1) ?_
  refine x_callv rfl rfl rfl Try.func26 (by kernel_rfl) rfl (fun w1 hw1 => c26 _ _ _ _ _ w1) ?_
  refine x_callv rfl rfl rfl Try.func25 (by kernel_rfl) rfl (fun w1 hw1 => c25 _ _ _ _ _ _ _ w1) ?_
  refine x_callv rfl rfl rfl Try.func26 (by kernel_rfl) rfl (fun w1 hw1 => c26 _ _ _ _ _ w1) ?_
  refine x_callv rfl rfl rfl Try.func25 (by kernel_rfl) rfl (fun w1 hw1 => c25 _ _ _ _ _ _ _ w1) ?_
  refine x_callv rfl rfl rfl Try.func26 (by kernel_rfl) rfl (fun w1 hw1 => c26 _ _ _ _ _ w1) ?_
  refine x_callv rfl rfl rfl Try.func25 (by kernel_rfl) rfl (fun w1 hw1 => c25 _ _ _ _ _ _ _ w1) ?_
  refine x_callv rfl rfl rfl Try.func26 (by kernel_rfl) rfl (fun w1 hw1 => c26 _ _ _ _ _ w1) ?_
  refine x_callv rfl rfl rfl Try.func26 (by kernel_rfl) rfl (fun w1 hw1 => c26 _ _ _ _ _ w1) ?_
  refine x_callv rfl rfl rfl Try.func26 (by kernel_rfl) rfl (fun w1 hw1 => c26 _ _ _ _ _ w1) ?_
  refine x_callv rfl rfl rfl Try.func25 (by kernel_rfl) rfl (fun w1 hw1 => c25 _ _ _ _ _ _ _ w1) ?_
  refine x_callv rfl rfl rfl Try.func26 (by kernel_rfl) rfl (fun w1 hw1 => c26 _ _ _ _ _ w1) ?_
  refine x_callv rfl rfl rfl Try.func26 (by kernel_rfl) rfl (fun w1 hw1 => c26 _ _ _ _ _ w1) ?_
  refine x_callv rfl rfl rfl Try.func26 (by kernel_rfl) rfl (fun w1 hw1 => c26 _ _ _ _ _ w1) ?_
  refine x_callv rfl rfl rfl Try.func25 (by kernel_rfl) rfl (fun w1 hw1 => c25 _ _ _ _ _ _ _ w1) ?_
  refine x_callv rfl rfl rfl Try.func26 (by kernel_rfl) rfl (fun w1 hw1 => c26 _ _ _ _ _ w1) ?_
  refine x_callv rfl rfl rfl Try.func25 (by kernel_rfl) rfl (fun w1 hw1 => c25 _ _ _ _ _ _ _ w1) ?_
  refine x_callv rfl rfl rfl Try.func26 (by kernel_rfl) rfl (fun w1 hw1 => c26 _ _ _ _ _ w1) ?_
  refine x_callv rfl rfl rfl Try.func25 (by kernel_rfl) rfl (fun w1 hw1 => c25 _ _ _ _ _ _ _ w1) ?_
  refine x_callv rfl rfl rfl Try.func24 (by kernel_rfl) rfl (fun w1 hw1 => c24 _ _ _ _ _ _ _ w1) ?_
  refine x_callv rfl rfl rfl Try.func26 (by kernel_rfl) rfl (fun w1 hw1 => c26 _ _ _ _ _ w1) ?_
  refine x_callv rfl rfl rfl Try.func26 (by kernel_rfl) rfl (fun w1 hw1 => c26 _ _ _ _ _ w1) ?_
  refine x_callv rfl rfl rfl Try.func26 (by kernel_rfl) rfl (fun w1 hw1 => c26 _ _ _ _ _ w1) ?_
  refine x_callv rfl rfl rfl Try.func26 (by kernel_rfl) rfl (fun w1 hw1 => c26 _ _ _ _ _ w1) ?_
  refine x_callv rfl rfl rfl Try.func26 (by kernel_rfl) rfl (fun w1 hw1 => c26 _ _ _ _ _ w1) ?_
  refine x_callv rfl rfl rfl Try.func26 (by kernel_rfl) rfl (fun w1 hw1 => c26 _ _ _ _ _ w1) ?_
  refine x_callv rfl rfl rfl Try.func26 (by kernel_rfl) rfl (fun w1 hw1 => c26 _ _ _ _ _ w1) ?_
  refine x_callv rfl rfl rfl Try.func26 (by kernel_rfl) rfl (fun w1 hw1 => c26 _ _ _ _ _ w1) ?_
  refine x_callv rfl rfl rfl Try.func26 (by kernel_rfl) rfl (fun w1 hw1 => c26 _ _ _ _ _ w1) ?_
  refine x_callv rfl rfl rfl Try.func26 (by kernel_rfl) rfl (fun w1 hw1 => c26 _ _ _ _ _ w1) ?_
  refine x_callv rfl rfl rfl Try.func26 (by kernel_rfl) rfl (fun w1 hw1 => c26 _ _ _ _ _ w1) ?_
  refine x_buildSliceL (cs := std.flatMap Rl.cells) rfl rfl rfl Try.underlying23 sz27 zr27 rfl rfl (by kernel_rfl) ?_
  intro p36
  refine x_val rfl rfl rfl (v_assign rfl) ?_
  refine x_end ?_
  refine t_norm ?_
  refine w_ret ?_
  exact ret1 rfl rfl (fun w' hm => ⟨_, rfl, hm.base (by simp), _, rfl, hm.apart (_, _) (.head _) (w, fun _ => True) (by simp) trivial, hm.own_at (_, _) (.head _)⟩)
set_option maxRecDepth 100000 in
theorem c13 (w : World) :
    Calls Try.prog 13 #[] w fun e w' => ∃ v, e = .returned v ∧ Later w w' ∧ ∃ b, v = .slice (some ⟨b, 0, none⟩) 24 24 ∧ w.heap.size ≤ b ∧ w'.heap[b]? = some (.cells (std.flatMap Rl.cells).toArray 27) := by
  refine enter (vs := []) Try.func13 rfl Try.ntmps13 rfl ?_
  refine w_seq ?_
  refine rg_text ?_
  refine x_val rfl rfl rfl (v_assign rfl) ?_
  refine x_end ?_
  refine t_norm ?_
  refine w_seq ?_
  refine rg_text ?_
  refine x_val rfl rfl rfl (v_assign rfl) ?_
  refine x_end ?_
  refine t_norm ?_
  refine w_seq ?_
  refine rg_text ?_
  refine x_callv rfl rfl rfl Try.func27 (by kernel_rfl) rfl (fun w1 hw1 => c27 _ _ _ _ _ _ w1 rfl) ?_
  refine x_callv rfl rfl rfl Try.func27 (by kernel_rfl) rfl (fun w1 hw1 => c27 _ _ _ _ _ _ w1 rfl) ?_
  refine x_callv rfl rfl rfl Try.func27 (by kernel_rfl) rfl (fun w1 hw1 => c27 _ _ _ _ _ _ w1 rfl) ?_
  refine x_callv rfl rfl rfl Try.func27 (by kernel_rfl) rfl (fun w1 hw1 => c27 _ _ _ _ _ _ w1 rfl) ?_
  refine x_callv rfl rfl rfl Try.func27 (by kernel_rfl) rfl (fun w1 hw1 => c27 _ _ _ _ _ _ w1 rfl) ?_
  refine x_callv rfl rfl rfl Try.func27 (by kernel_rfl) rfl (fun w1 hw1 => c27 _ _ _ _ _ _ w1 rfl) ?_
  refine x_callv rfl rfl rfl Try.func27 (by kernel_rfl) rfl (fun w1 hw1 => c27 _ _ _ _ _ _ w1 rfl) ?_
  refine x_callv rfl rfl rfl Try.func27 (by kernel_rfl) rfl (fun w1 hw1 => c27 _ _ _ _ _ _ w1 rfl) ?_
  refine x_callv rfl rfl rfl Try.func27 (by kernel_rfl) rfl (fun w1 hw1 => c27 _ _ _ _ _ _ w1 rfl) ?_
  refine x_callv rfl rfl rfl Try.func27 (by kernel_rfl) rfl (fun w1 hw1 => c27 _ _ _ _ _ _ w1 rfl) ?_
  refine x_callv rfl rfl rfl Try.func27 (by kernel_rfl) rfl (fun w1 hw1 => c27 _ _ _ _ _ _ w1 rfl) ?_
  refine x_callv rfl rfl rfl Try.func27 (by kernel_rfl) rfl (fun w1 hw1 => c27 _ _ _ _ _ _ w1 rfl) ?_
  refine x_callv rfl rfl rfl Try.func27 (by kernel_rfl) rfl (fun w1 hw1 => c27 _ _ _ _ _ _ w1 rfl) ?_
  refine x_callv rfl rfl rfl Try.func27 (by kernel_rfl) rfl (fun w1 hw1 => c27 _ _ _ _ _ _ w1 rfl) ?_
  refine x_callv rfl rfl rfl Try.func27 (by kernel_rfl) rfl (fun w1 hw1 => c27 _ _ _ _ _ _ w1 rfl) ?_
  refine x_callv rfl rfl rfl Try.func27 (by kernel_rfl) rfl (fun w1 hw1 => c27 _ _ _ _ _ _ w1 rfl) ?_
  refine x_callv rfl rfl rfl Try.func27 (by kernel_rfl) rfl (fun w1 hw1 => c27 _ _ _ _ _ _ w1 rfl) ?_
  refine x_callv rfl rfl rfl Try.func27 (by kernel_rfl) rfl (fun w1 hw1 => c27 _ _ _ _ _ _ w1 rfl) ?_
  refine x_callv rfl rfl rfl Try.func27 (by kernel_rfl) rfl (fun w1 hw1 => c27 _ _ _ _ _ _ w1 rfl) ?_
  refine x_callv rfl rfl rfl Try.func27 (by kernel_rfl) rfl (fun w1 hw1 => c27 _ _ _ _ _ _ w1 rfl) ?_
  refine x_callv rfl rfl rfl Try.func27 (by kernel_rfl) rfl (fun w1 hw1 => c27 _ _ _ _ _ _ w1 rfl) ?_
  refine x_callv rfl rfl rfl Try.func27 (by kernel_rfl) rfl (fun w1 hw1 => c27 _ _ _ _ _ _ w1 rfl) ?_
  refine x_callv rfl rfl rfl Try.func27 (by kernel_rfl) rfl (fun w1 hw1 => c27 _ _ _ _ _ _ w1 rfl) ?_
  refine x_val rfl rfl rfl (v_move rfl) ?_
  refine x_val rfl rfl rfl (v_move rfl) ?_
  refine x_callv rfl rfl rfl Try.func27 (by kernel_rfl) rfl (fun w1 hw1 => c27 _ _ _ _ _ _ w1 rfl) ?_
  refine x_buildSliceL (cs := std.flatMap Rl.cells) rfl rfl rfl Try.underlying23 sz27 zr27 rfl rfl (by kernel_rfl) ?_
  intro p28
  refine x_val rfl rfl rfl (v_assign rfl) ?_
  refine x_end ?_
  refine t_norm ?_
  refine w_ret ?_
  exact ret1 rfl rfl (fun w' hm => ⟨_, rfl, hm.base (by simp), _, rfl, hm.apart (_, _) (.head _) (w, fun _ => True) (by simp) trivial, hm.own_at (_, _) (.head _)⟩)

end Go.Proofs.Ytmihkbciilloaaa
