import Derived.Test.YtmihkbciilloaaaWi
import Derived.Test.YtmihkbciilloaaaPkMore
namespace Go.Proofs.Ytmihkbciilloaaa
open Go.RowKit Go.PK
set_option linter.unusedVariables false
set_option linter.unusedSimpArgs false
theorem c23o {own : List (Nat × Obj)} {ro : List Snap} (t i x : ByteArray) (c : UInt8) (w : World) (hm : Mem w own ro) :
    Calls Try.prog 23 #[.string t, .string i, .int .u8 c.toNat, .string x] w fun e w' => ∃ b, e = .returned (.agg #[.string t, .string i, .string ⟨#[]⟩, .slice (some ⟨b, 0, none⟩) 1 1]) ∧ Later w w' ∧ True ∧ Mem w' ((b, .cells [.int .u8 c.toNat, .string x].toArray 48) :: own) ro := by
  refine enter_in (vs := [.string t, .string i, .int .u8 c.toNat, .string x]) hm.snap Try.func23 rfl Try.ntmps23 rfl ?_
  refine w_seq ?_
  refine rg_text ?_
  refine x_alloc rfl rfl rfl zr46 ?_
  intro p8
  refine x_end ?_
  refine t_norm ?_
  refine w_seq ?_
  refine rg_text ?_
  refine x_val rfl rfl rfl (v_move rfl) ?_
  refine x_val rfl rfl rfl (v_move rfl) ?_
  refine x_val rfl rfl rfl (v_move rfl) ?_
  refine x_val rfl rfl rfl (v_move rfl) ?_
  refine x_val rfl rfl rfl (v_buildL (places := [(0, 1), (1, 1)]) Try.underlying48 zr48 (by kernel_rfl) rfl rfl) ?_
  refine x_buildSliceL rfl rfl rfl Try.underlying44 sz48 zr48 rfl rfl rfl ?_
  intro p14
  refine x_val rfl rfl rfl (v_buildL (places := [(0, 1), (1, 1), (2, 1), (3, 1)]) Try.underlying46 zr46 (by kernel_rfl) rfl rfl) ?_
  refine x_store0 [(p14, _)] rfl rfl rfl rfl sz46 rfl rfl ?_
  refine x_end ?_
  refine t_norm ?_
  refine w_ret ?_
  refine retc rfl rfl (.tail _ (.head _)) Try.underlying46 rfl sz46 (fun w' hm' => ⟨p14, rfl, hm.later_of hm' (fun p hp => .tail _ (.tail _ hp)), trivial, hm'.less ((List.sublist_cons_self _ _).cons_cons _) (fun s hs => .tail _ hs)⟩)

end Go.Proofs.Ytmihkbciilloaaa
