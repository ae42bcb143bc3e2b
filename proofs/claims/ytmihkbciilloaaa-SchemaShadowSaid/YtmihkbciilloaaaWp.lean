import Derived.Test.YtmihkbciilloaaaWo
import Derived.Test.YtmihkbciilloaaaPkMade
namespace Go.Proofs.Ytmihkbciilloaaa
open Go.RowKit Go.PK
set_option linter.unusedVariables false
set_option linter.unusedSimpArgs false
theorem c29 (n : Int) (w : World) (h : in64 n) :
    Calls Try.prog 29 #[.int .i64 n] w fun e w' => e = .returned (.string (tagOf n)) ∧ Later w w' := by
  refine enter (vs := [.int .i64 n]) Try.func29 rfl Try.ntmps29 rfl ?_
  refine w_seq ?_
  refine rg_text ?_
  refine x_val rfl rfl rfl (v_assign rfl) ?_
  refine x_end ?_
  refine t_norm ?_
  refine w_seq ?_
  refine rg_text ?_
  refine x_buildSliceL (cs := tagL.map Value.string) rfl rfl rfl Try.underlying67 sz9 zr9 rfl rfl (by kernel_rfl) ?_
  intro p4
  refine x_val rfl rfl rfl (v_assign rfl) ?_
  refine x_end ?_
  refine t_norm ?_
  refine w_seq ?_
  refine rg_text ?_
  refine x_val rfl rfl rfl (v_move rfl) ?_
  refine x_val rfl rfl rfl (v_move rfl) ?_
  refine x_val rfl rfl rfl (v_move rfl) ?_
  refine x_val rfl rfl rfl (v_len_slice Try.underlying67 rfl) ?_
  refine x_callv rfl rfl rfl Try.func28 (by kernel_rfl) rfl (fun w1 hw1 => c28 _ _ w1 (by omega) (by omega) h.1 h.2) ?_
  obtain ⟨i, hi⟩ : ∃ i : Nat, n % (20 : Nat) = (i : Nat) := ⟨(n % 20).toNat, by omega⟩
  have hi2 : i < 20 := by omega
  refine x_val rfl rfl rfl (v_indexAddr (j := i) Try.underlying67 sz9 rfl (congrArg (fun z : Int => some (Value.int .i64 z)) hi) hi2 rfl) ?_
  refine x_val rfl rfl rfl (v_load Try.underlying9 rfl rfl (at_ownL (.head _) (by rw [Nat.zero_add, Nat.mul_one]; exact pick_at (l := tagL) hi hi2))) ?_
  refine x_val rfl rfl rfl (v_assign rfl) ?_
  refine x_end ?_
  refine t_norm ?_
  refine w_ret ?_
  refine ret1 rfl rfl (fun w' hm => ⟨?_, hm.base (by simp)⟩)
  rfl
theorem c30 (n : Int) (w : World) (h : in64 n) :
    Calls Try.prog 30 #[.int .i64 n] w fun e w' => e = .returned (.string (textOf n)) ∧ Later w w' := by
  refine enter (vs := [.int .i64 n]) Try.func30 rfl Try.ntmps30 rfl ?_
  refine w_seq ?_
  refine rg_text ?_
  refine x_val rfl rfl rfl (v_assign rfl) ?_
  refine x_end ?_
  refine t_norm ?_
  refine w_seq ?_
  refine rg_text ?_
  refine x_buildSliceL (cs := textL.map Value.string) rfl rfl rfl Try.underlying67 sz9 zr9 rfl rfl (by kernel_rfl) ?_
  intro p4
  refine x_val rfl rfl rfl (v_assign rfl) ?_
  refine x_end ?_
  refine t_norm ?_
  refine w_seq ?_
  refine rg_text ?_
  refine x_val rfl rfl rfl (v_move rfl) ?_
  refine x_val rfl rfl rfl (v_move rfl) ?_
  refine x_val rfl rfl rfl (v_move rfl) ?_
  refine x_val rfl rfl rfl (v_len_slice Try.underlying67 rfl) ?_
  refine x_callv rfl rfl rfl Try.func28 (by kernel_rfl) rfl (fun w1 hw1 => c28 _ _ w1 (by omega) (by omega) h.1 h.2) ?_
  obtain ⟨i, hi⟩ : ∃ i : Nat, n % (20 : Nat) = (i : Nat) := ⟨(n % 20).toNat, by omega⟩
  have hi2 : i < 20 := by omega
  refine x_val rfl rfl rfl (v_indexAddr (j := i) Try.underlying67 sz9 rfl (congrArg (fun z : Int => some (Value.int .i64 z)) hi) hi2 rfl) ?_
  refine x_val rfl rfl rfl (v_load Try.underlying9 rfl rfl (at_ownL (.head _) (by rw [Nat.zero_add, Nat.mul_one]; exact pick_at (l := textL) hi hi2))) ?_
  refine x_val rfl rfl rfl (v_assign rfl) ?_
  refine x_end ?_
  refine t_norm ?_
  refine w_ret ?_
  refine ret1 rfl rfl (fun w' hm => ⟨?_, hm.base (by simp)⟩)
  rfl

end Go.Proofs.Ytmihkbciilloaaa
