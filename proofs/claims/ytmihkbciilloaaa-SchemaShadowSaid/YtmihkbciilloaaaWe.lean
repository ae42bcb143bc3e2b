import Derived.Test.YtmihkbciilloaaaWd
import Derived.Test.YtmihkbciilloaaaPkSchema
namespace Go.Proofs.Ytmihkbciilloaaa
open Go.RowKit Go.PK
set_option linter.unusedVariables false
set_option linter.unusedSimpArgs false

def testC : Array Value := testL.toArray
theorem ap54 : (Try.prog.info? 54).map (fun j => (j.zero, j.size, j.bytes)) = some (some (.agg #[.int .i64 0, .int .i64 0]), 2, 16) := by kernel_rfl
theorem c33 {i k : Int} {p5 : Nat} {l1 l2 : List (Nat × Obj)} {r : RowS} {len : Nat} {xs : List Value} {ro : List Snap} (w : World) (hm : Mem w (l1 ++ (p5, .cells [rowV r len].toArray 35 (0, 0)) :: (rowO 54 r ++ l2)) ro) (hr : rowOK 2 r len xs) (hb : len < 8796093022208) :
    Calls Try.prog 33 #[.int .i64 i, .int .i64 k, .pointer (some ⟨p5, 0, none⟩)] w fun e w' => e = .returned (.tuple #[]) ∧ ∃ r', rowOK 2 r' (len + 1) (xs ++ [.int .i64 i, .int .i64 k]) ∧ Mem w' (l1 ++ (p5, .cells [rowV r' (len + 1)].toArray 35 (0, 0)) :: (rowO 54 r' ++ l2)) ro := by
  refine enter_in (vs := [.int .i64 i, .int .i64 k, .pointer (some ⟨p5, 0, none⟩)]) hm Try.func33 rfl Try.ntmps33 rfl ?_
  refine rg_text ?_
  refine x_val rfl rfl rfl (v_load Try.underlying35 rfl rfl (at_ownL (vs := [rowV r len]) (e := 35) (fz := (0, 0)) (List.mem_append_right _ (.head _)) rfl)) ?_
  refine x_val rfl rfl rfl (v_move rfl) ?_
  refine x_val rfl rfl rfl (v_move rfl) ?_
  refine x_val rfl rfl rfl (v_buildL (places := [(0, 1), (1, 1)]) Try.underlying54 zr54 (by kernel_rfl) rfl rfl) ?_
  refine x_buildSliceL rfl rfl rfl Try.underlying35 sz54 zr54 rfl rfl rfl ?_
  intro p9
  refine x_append (e := 54) ((p9, _) :: (l1 ++ [(p5, _)])) (l2 := l2) r rfl rfl rfl rfl (by simp; exact ⟨rfl, rfl⟩) hr Try.underlying35 ap54 rfl rfl (m := 1) (news := [.int .i64 i, .int .i64 k]) (fun j hj => at_ownL (vs := [.int .i64 i, .int .i64 k]) (.head _) (by simp)) rfl (by unfold maxLen; omega) (by omega) ?_
  intro r' hr'
  refine x_mem (own' := l1 ++ (p5, .cells [rowV r len].toArray 35 (0, 0)) :: (rowO 54 r' ++ l2)) (fun w h => h.less (by simp) (fun _ h => h)) ?_
  refine x_store l1 rfl rfl rfl rfl sz35 rfl (by simp) ?_
  refine x_end ?_
  refine ret0 rfl (fun w' hm' => ⟨rfl, r', hr', ?_⟩)
  exact hm'
theorem c34 (w : World) :
    Calls Try.prog 34 #[] w fun e w' => ∃ v, e = .returned v ∧ Later w w' ∧ ∃ b, v = .slice (some ⟨b, 0, none⟩) 4 4 ∧ w.heap.size ≤ b ∧ w'.heap[b]? = some (.cells testC 80) := by
  refine enter (vs := []) Try.func34 rfl Try.ntmps34 rfl ?_
  refine w_seq ?_
  refine rg_text ?_
  refine x_val rfl rfl rfl (v_assign rfl) ?_
  refine x_end ?_
  refine t_norm ?_
  refine w_seq ?_
  refine rg_text ?_
  refine x_val rfl rfl rfl (v_buildL (places := [(0, 1), (1, 1), (2, 1)]) Try.underlying80 zr80 (by kernel_rfl) rfl rfl) ?_
  refine x_val rfl rfl rfl (v_buildL (places := [(0, 1), (1, 1), (2, 1)]) Try.underlying80 zr80 (by kernel_rfl) rfl rfl) ?_
  refine x_val rfl rfl rfl (v_buildL (places := [(0, 1), (1, 1), (2, 1)]) Try.underlying80 zr80 (by kernel_rfl) rfl rfl) ?_
  refine x_val rfl rfl rfl (v_buildL (places := [(0, 1), (1, 1), (2, 1)]) Try.underlying80 zr80 (by kernel_rfl) rfl rfl) ?_
  refine x_buildSliceL rfl rfl rfl Try.underlying72 sz80 zr80 rfl rfl rfl ?_
  intro p5
  refine x_val rfl rfl rfl (v_assign rfl) ?_
  refine x_end ?_
  refine t_norm ?_
  refine w_ret ?_
  exact ret1 rfl rfl (fun w' hm => ⟨_, rfl, hm.base (by simp), _, rfl, hm.apart (_, _) (.head _) (w, fun _ => True) (by simp) trivial, hm.own_at (_, _) (.head _)⟩)

end Go.Proofs.Ytmihkbciilloaaa
