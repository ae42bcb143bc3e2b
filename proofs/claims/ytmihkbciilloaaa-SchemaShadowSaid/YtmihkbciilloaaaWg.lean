import Derived.Test.YtmihkbciilloaaaWf
import Derived.Test.YtmihkbciilloaaaPkStd
namespace Go.Proofs.Ytmihkbciilloaaa
open Go.RowKit Go.PK
set_option linter.unusedVariables false
set_option linter.unusedSimpArgs false
theorem c26 (t i0 i1 cd sg : ByteArray) (w : World) :
    Calls Try.prog 26 #[.string t, .string i0, .string i1, .string cd, .string sg] w fun e w' => e = .returned (.agg #[.string t, .bool false, .bool false, .string i0, .string i1, .string cd, .string sg]) ∧ Later w w' := by
  refine enter (vs := [.string t, .string i0, .string i1, .string cd, .string sg]) Try.func26 rfl Try.ntmps26 rfl ?_
  refine w_seq ?_
  refine rg_text ?_
  refine x_alloc rfl rfl rfl zr27 ?_
  intro p10
  refine x_end ?_
  refine t_norm ?_
  refine w_seq ?_
  refine rg_text ?_
  refine x_val rfl rfl rfl (v_move rfl) ?_
  refine x_val rfl rfl rfl (v_move rfl) ?_
  refine x_val rfl rfl rfl (v_move rfl) ?_
  refine x_val rfl rfl rfl (v_buildArr Try.underlying25 zr25 sz9 rfl rfl) ?_
  refine x_val rfl rfl rfl (v_move rfl) ?_
  refine x_val rfl rfl rfl (v_move rfl) ?_
  refine x_val rfl rfl rfl (v_buildL (places := [(0, 1), (1, 1), (2, 1), (3, 2), (5, 1), (6, 1)]) Try.underlying27 zr27 (by kernel_rfl) rfl rfl) ?_
  refine x_store0 [] rfl rfl rfl rfl sz27 rfl rfl ?_
  refine x_end ?_
  refine t_norm ?_
  refine w_ret ?_
  refine retc rfl rfl (.head _) Try.underlying27 rfl sz27 (fun w' hm => ⟨rfl, hm.base (by simp)⟩)
theorem c25 (t i0 i1 cd sg : ByteArray) (m o : Bool) (w : World) :
    Calls Try.prog 25 #[.agg #[.string t, .bool m, .bool o, .string i0, .string i1, .string cd, .string sg]] w fun e w' => e = .returned (.agg #[.string t, .bool m, .bool true, .string i0, .string i1, .string cd, .string sg]) ∧ Later w w' := by
  refine enter (vs := [.agg #[.string t, .bool m, .bool o, .string i0, .string i1, .string cd, .string sg]]) Try.func25 rfl Try.ntmps25 rfl ?_
  refine w_seq ?_
  refine rg_text ?_
  refine x_box rfl rfl rfl rfl ?_
  intro p1
  refine x_alloc rfl rfl rfl zr27 ?_
  intro p2
  refine x_end ?_
  refine t_norm ?_
  refine w_seq ?_
  refine rg_text ?_
  refine x_val rfl rfl rfl (v_fieldAddr (off' := 2) Try.underlying27 rfl sz4 (by decide) rfl rfl) ?_
  refine x_store [(p2, _)] rfl rfl rfl rfl sz4 rfl (by first | decide | simp) ?_
  refine x_end ?_
  refine t_norm ?_
  refine w_seq ?_
  refine rg_text ?_
  refine x_val rfl rfl rfl (v_load_blk Try.underlying27 rfl rfl (by first | exact .head _ | exact .tail _ (.head _) | exact .tail _ (.tail _ (.head _)) | (repeat (first | exact List.Mem.head _ | apply List.Mem.tail | apply List.mem_append_right))) (by exact sz27)) ?_
  refine x_store0 [] rfl rfl rfl rfl sz27 rfl rfl ?_
  refine x_end ?_
  refine t_norm ?_
  refine w_ret ?_
  refine retc rfl rfl (.head _) Try.underlying27 rfl sz27 (fun w' hm => ⟨rfl, hm.base (by simp)⟩)
theorem c24 (t i0 i1 cd sg : ByteArray) (m o : Bool) (w : World) :
    Calls Try.prog 24 #[.agg #[.string t, .bool m, .bool o, .string i0, .string i1, .string cd, .string sg]] w fun e w' => e = .returned (.agg #[.string t, .bool true, .bool o, .string i0, .string i1, .string cd, .string sg]) ∧ Later w w' := by
  refine enter (vs := [.agg #[.string t, .bool m, .bool o, .string i0, .string i1, .string cd, .string sg]]) Try.func24 rfl Try.ntmps24 rfl ?_
  refine w_seq ?_
  refine rg_text ?_
  refine x_box rfl rfl rfl rfl ?_
  intro p1
  refine x_alloc rfl rfl rfl zr27 ?_
  intro p2
  refine x_end ?_
  refine t_norm ?_
  refine w_seq ?_
  refine rg_text ?_
  refine x_val rfl rfl rfl (v_fieldAddr (off' := 1) Try.underlying27 rfl sz4 (by decide) rfl rfl) ?_
  refine x_store [(p2, _)] rfl rfl rfl rfl sz4 rfl (by first | decide | simp) ?_
  refine x_end ?_
  refine t_norm ?_
  refine w_seq ?_
  refine rg_text ?_
  refine x_val rfl rfl rfl (v_load_blk Try.underlying27 rfl rfl (by first | exact .head _ | exact .tail _ (.head _) | exact .tail _ (.tail _ (.head _)) | (repeat (first | exact List.Mem.head _ | apply List.Mem.tail | apply List.mem_append_right))) (by exact sz27)) ?_
  refine x_store0 [] rfl rfl rfl rfl sz27 rfl rfl ?_
  refine x_end ?_
  refine t_norm ?_
  refine w_ret ?_
  refine retc rfl rfl (.head _) Try.underlying27 rfl sz27 (fun w' hm => ⟨rfl, hm.base (by simp)⟩)
theorem c27 (t yn i0 i1 cd sg : ByteArray) (w : World) (hy : yn.size = 2) :
    Calls Try.prog 27 #[.string t, .string yn, .string i0, .string i1, .string cd, .string sg] w fun e w' => e = .returned (.agg #[.string t, .bool (decide (((byteAt yn 0).toNat : Int) = 121)), .bool (decide (((byteAt yn 1).toNat : Int) = 121)), .string i0, .string i1, .string cd, .string sg]) ∧ Later w w' := by
  refine enter (vs := [.string t, .string yn, .string i0, .string i1, .string cd, .string sg]) Try.func27 rfl Try.ntmps27 rfl ?_
  refine w_seq ?_
  refine rg_text ?_
  refine x_alloc rfl rfl rfl zr27 ?_
  intro p12
  refine x_end ?_
  refine t_norm ?_
  refine w_seq ?_
  refine rg_draw 13 [(true, 0), (true, 1), (true, 2), (true, 3), (true, 4), (true, 5), (true, 6), (true, 7), (true, 8), (true, 9), (true, 10), (true, 11), (true, 12)] (by kernel_rfl) (by kernel_rfl) ?_
  refine x_val rfl rfl rfl (v_move rfl) ?_
  refine x_val rfl rfl rfl (v_move rfl) ?_
  refine x_val rfl rfl rfl (v_index (j := 0) Try.underlying9 rfl rfl (by first | omega | (dsimp only; omega))) ?_
  refine x_bool rfl rfl rfl (v_eql rfl rfl) ?_
  intro b16 hb16
  refine x_val rfl rfl rfl (v_move rfl) ?_
  refine x_val rfl rfl rfl (v_index (j := 1) Try.underlying9 rfl rfl (by first | omega | (dsimp only; omega))) ?_
  refine x_bool rfl rfl rfl (v_eql rfl rfl) ?_
  intro b19 hb19
  refine x_val rfl rfl rfl (v_move rfl) ?_
  refine x_val rfl rfl rfl (v_move rfl) ?_
  refine x_val rfl rfl rfl (v_buildArr Try.underlying25 zr25 sz9 rfl rfl) ?_
  refine x_val rfl rfl rfl (v_move rfl) ?_
  refine x_val rfl rfl rfl (v_move rfl) ?_
  refine x_val rfl rfl rfl (v_buildL (places := [(0, 1), (1, 1), (2, 1), (3, 2), (5, 1), (6, 1)]) Try.underlying27 zr27 (by kernel_rfl) rfl rfl) ?_
  refine x_store0 [] rfl rfl rfl rfl sz27 rfl rfl ?_
  refine x_end ?_
  refine t_norm ?_
  refine w_ret ?_
  refine retc rfl rfl (.head _) Try.underlying27 rfl sz27 (fun w' hm => ⟨by rw [hb16, hb19]; rfl, hm.base (by simp)⟩)

end Go.Proofs.Ytmihkbciilloaaa
