/- Of the proofs of YtbamklefagghcaaGreatDoor: Facts Wa Wb, put together. -/
import Derived.Test.YtbamklefagghcaaGreatDoorRows
import Derived.Test.YtbamklefagghcaaGreatDoorO2
import Derived.Test.YtbamklefagghcaaGreatDoorO1
namespace Go.Proofs.YtbamklefagghcaaGreatDoor
theorem sz2 : (Tryz.prog.info? 2).map (·.size) = some 1 := by kernel_rfl
theorem zr2 : (Tryz.prog.info? 2).bind (·.zero) = some (.int .i64 0) := by kernel_rfl
theorem sz3 : (Tryz.prog.info? 3).map (·.size) = some 1 := by kernel_rfl
theorem zr3 : (Tryz.prog.info? 3).bind (·.zero) = some (.int .i64 0) := by kernel_rfl
theorem sz4 : (Tryz.prog.info? 4).map (·.size) = some 1 := by kernel_rfl
theorem zr4 : (Tryz.prog.info? 4).bind (·.zero) = some (.bool false) := by kernel_rfl
theorem sz5 : (Tryz.prog.info? 5).map (·.size) = some 1 := by kernel_rfl
theorem zr5 : (Tryz.prog.info? 5).bind (·.zero) = some (.int .u8 0) := by kernel_rfl
theorem sz6 : (Tryz.prog.info? 6).map (·.size) = some 1 := by kernel_rfl
theorem zr6 : (Tryz.prog.info? 6).bind (·.zero) = some (.int .u8 0) := by kernel_rfl
theorem sz8 : (Tryz.prog.info? 8).map (·.size) = some 4 := by kernel_rfl
theorem zr8 : (Tryz.prog.info? 8).bind (·.zero) = some (.agg #[.int .i64 0, .int .i64 0, .bool false, .int .u8 0]) := by kernel_rfl
theorem sz9 : (Tryz.prog.info? 9).map (·.size) = some 1 := by kernel_rfl
theorem zr9 : (Tryz.prog.info? 9).bind (·.zero) = some (.string ⟨#[]⟩) := by kernel_rfl
theorem sz10 : (Tryz.prog.info? 10).map (·.size) = some 1 := by kernel_rfl
theorem zr10 : (Tryz.prog.info? 10).bind (·.zero) = some (.string ⟨#[]⟩) := by kernel_rfl
theorem sz11 : (Tryz.prog.info? 11).map (·.size) = some 1 := by kernel_rfl
theorem zr11 : (Tryz.prog.info? 11).bind (·.zero) = some (.string ⟨#[]⟩) := by kernel_rfl
theorem sz12 : (Tryz.prog.info? 12).map (·.size) = some 1 := by kernel_rfl
theorem zr12 : (Tryz.prog.info? 12).bind (·.zero) = some (.int .u64 0) := by kernel_rfl
theorem sz14 : (Tryz.prog.info? 14).map (·.size) = some 2 := by kernel_rfl
theorem zr14 : (Tryz.prog.info? 14).bind (·.zero) = some (.agg #[.string ⟨#[]⟩, .int .u64 0]) := by kernel_rfl
theorem sz15 : (Tryz.prog.info? 15).map (·.size) = some 1 := by kernel_rfl
theorem zr15 : (Tryz.prog.info? 15).bind (·.zero) = some (.pointer none) := by kernel_rfl
theorem sz16 : (Tryz.prog.info? 16).map (·.size) = some 1 := by kernel_rfl
theorem zr16 : (Tryz.prog.info? 16).bind (·.zero) = some (.pointer none) := by kernel_rfl
theorem sz17 : (Tryz.prog.info? 17).map (·.size) = some 1 := by kernel_rfl
theorem zr17 : (Tryz.prog.info? 17).bind (·.zero) = some (.pointer none) := by kernel_rfl
theorem sz19 : (Tryz.prog.info? 19).map (·.size) = some 1 := by kernel_rfl
theorem zr19 : (Tryz.prog.info? 19).bind (·.zero) = some (.agg #[.pointer none]) := by kernel_rfl
theorem sz21 : (Tryz.prog.info? 21).map (·.size) = some 1 := by kernel_rfl
theorem zr21 : (Tryz.prog.info? 21).bind (·.zero) = some (.int .i32 0) := by kernel_rfl
theorem sz23 : (Tryz.prog.info? 23).map (·.size) = some 2 := by kernel_rfl
theorem zr23 : (Tryz.prog.info? 23).bind (·.zero) = some (.agg #[.int .i64 0, .int .i64 0]) := by kernel_rfl
theorem sz25 : (Tryz.prog.info? 25).map (·.size) = some 9 := by kernel_rfl
theorem zr25 : (Tryz.prog.info? 25).bind (·.zero) = some (.agg #[.int .i64 0, .int .i64 0, .int .i64 0, .int .i64 0, .int .i64 0, .int .i64 0, .int .i64 0, .int .i64 0, .int .i64 0]) := by kernel_rfl
theorem sz28 : (Tryz.prog.info? 28).map (·.size) = some 1 := by kernel_rfl
theorem zr28 : (Tryz.prog.info? 28).bind (·.zero) = some (.slice none 0 0) := by kernel_rfl
theorem sz29 : (Tryz.prog.info? 29).map (·.size) = some 1 := by kernel_rfl
theorem zr29 : (Tryz.prog.info? 29).bind (·.zero) = some (.slice none 0 0) := by kernel_rfl
theorem sz32 : (Tryz.prog.info? 32).map (·.size) = some 1 := by kernel_rfl
theorem zr32 : (Tryz.prog.info? 32).bind (·.zero) = some (.int .i64 0) := by kernel_rfl
theorem sz37 : (Tryz.prog.info? 37).map (·.size) = some 1 := by kernel_rfl
theorem zr37 : (Tryz.prog.info? 37).bind (·.zero) = some (.slice none 0 0) := by kernel_rfl
theorem sz42 : (Tryz.prog.info? 42).map (·.size) = some 1 := by kernel_rfl
theorem zr42 : (Tryz.prog.info? 42).bind (·.zero) = some (.int .u32 0) := by kernel_rfl
theorem sz47 : (Tryz.prog.info? 47).map (·.size) = some 1 := by kernel_rfl
theorem zr47 : (Tryz.prog.info? 47).bind (·.zero) = some (.slice none 0 0) := by kernel_rfl
theorem sz49 : (Tryz.prog.info? 49).map (·.size) = some 2 := by kernel_rfl
theorem zr49 : (Tryz.prog.info? 49).bind (·.zero) = some (.agg #[.string ⟨#[]⟩, .slice none 0 0]) := by kernel_rfl
theorem sz54 : (Tryz.prog.info? 54).map (·.size) = some 1 := by kernel_rfl
theorem zr54 : (Tryz.prog.info? 54).bind (·.zero) = some (.slice none 0 0) := by kernel_rfl
theorem sz56 : (Tryz.prog.info? 56).map (·.size) = some 1 := by kernel_rfl
theorem zr56 : (Tryz.prog.info? 56).bind (·.zero) = some (.slice none 0 0) := by kernel_rfl
theorem sz57 : (Tryz.prog.info? 57).map (·.size) = some 1 := by kernel_rfl
theorem zr57 : (Tryz.prog.info? 57).bind (·.zero) = some (.slice none 0 0) := by kernel_rfl
theorem sz60 : (Tryz.prog.info? 60).map (·.size) = some 4 := by kernel_rfl
theorem zr60 : (Tryz.prog.info? 60).bind (·.zero) = some (.agg #[.int .i64 0, .int .i64 0, .int .i64 0, .int .i64 0]) := by kernel_rfl
theorem sz62 : (Tryz.prog.info? 62).map (·.size) = some 1 := by kernel_rfl
theorem zr62 : (Tryz.prog.info? 62).bind (·.zero) = some (.slice none 0 0) := by kernel_rfl
theorem sz77 : (Tryz.prog.info? 77).map (·.size) = some 4 := by kernel_rfl
theorem zr77 : (Tryz.prog.info? 77).bind (·.zero) = some (.agg #[.int .u8 0, .int .u8 0, .int .u8 0, .int .u8 0]) := by kernel_rfl
theorem sz79 : (Tryz.prog.info? 79).map (·.size) = some 1 := by kernel_rfl
theorem zr79 : (Tryz.prog.info? 79).bind (·.zero) = some (.pointer none) := by kernel_rfl
theorem sz81 : (Tryz.prog.info? 81).map (·.size) = some 2 := by kernel_rfl
theorem zr81 : (Tryz.prog.info? 81).bind (·.zero) = some (.agg #[.pointer none, .slice none 0 0]) := by kernel_rfl
theorem sz84 : (Tryz.prog.info? 84).map (·.size) = some 1 := by kernel_rfl
theorem zr84 : (Tryz.prog.info? 84).bind (·.zero) = some (.nilIface) := by kernel_rfl
theorem sz91 : (Tryz.prog.info? 91).map (·.size) = some 1 := by kernel_rfl
theorem zr91 : (Tryz.prog.info? 91).bind (·.zero) = some (.pointer none) := by kernel_rfl
theorem sz95 : (Tryz.prog.info? 95).map (·.size) = some 6 := by kernel_rfl
theorem zr95 : (Tryz.prog.info? 95).bind (·.zero) = some (.agg #[.int .u8 0, .int .u8 0, .int .u8 0, .int .u8 0, .string ⟨#[]⟩, .int .i64 0]) := by kernel_rfl
theorem sz111 : (Tryz.prog.info? 111).map (·.size) = some 1 := by kernel_rfl
theorem zr111 : (Tryz.prog.info? 111).bind (·.zero) = some (.nilFunc) := by kernel_rfl
theorem sz112 : (Tryz.prog.info? 112).map (·.size) = some 1 := by kernel_rfl
theorem zr112 : (Tryz.prog.info? 112).bind (·.zero) = some (.nilFunc) := by kernel_rfl
theorem sz113 : (Tryz.prog.info? 113).map (·.size) = some 1 := by kernel_rfl
theorem zr113 : (Tryz.prog.info? 113).bind (·.zero) = some (.slice none 0 0) := by kernel_rfl
theorem sz115 : (Tryz.prog.info? 115).map (·.size) = some 1 := by kernel_rfl
theorem zr115 : (Tryz.prog.info? 115).bind (·.zero) = some (.nilFunc) := by kernel_rfl
theorem sz117 : (Tryz.prog.info? 117).map (·.size) = some 1 := by kernel_rfl
theorem zr117 : (Tryz.prog.info? 117).bind (·.zero) = some (.nilFunc) := by kernel_rfl
theorem sz119 : (Tryz.prog.info? 119).map (·.size) = some 1 := by kernel_rfl
theorem zr119 : (Tryz.prog.info? 119).bind (·.zero) = some (.nilFunc) := by kernel_rfl
theorem sz136 : (Tryz.prog.info? 136).map (·.size) = some 1 := by kernel_rfl
theorem zr136 : (Tryz.prog.info? 136).bind (·.zero) = some (.int .i64 0) := by kernel_rfl
theorem sz139 : (Tryz.prog.info? 139).map (·.size) = some 1 := by kernel_rfl
theorem zr139 : (Tryz.prog.info? 139).bind (·.zero) = some (.pointer none) := by kernel_rfl
theorem sz145 : (Tryz.prog.info? 145).map (·.size) = some 24 := by kernel_rfl
theorem zr145 : (Tryz.prog.info? 145).bind (·.zero) = some (.agg (List.replicate 24 (.int .u8 0)).toArray) := by kernel_rfl
theorem sz146 : (Tryz.prog.info? 146).map (·.size) = some 1 := by kernel_rfl
theorem zr146 : (Tryz.prog.info? 146).bind (·.zero) = some (.int .u64 0) := by kernel_rfl
theorem sz153 : (Tryz.prog.info? 153).map (·.size) = some 1 := by kernel_rfl
theorem zr153 : (Tryz.prog.info? 153).bind (·.zero) = some (.int .u64 0) := by kernel_rfl
theorem sz156 : (Tryz.prog.info? 156).map (·.size) = some 3 := by kernel_rfl
theorem zr156 : (Tryz.prog.info? 156).bind (·.zero) = some (.agg #[.string ⟨#[]⟩, .string ⟨#[]⟩, .nilIface]) := by kernel_rfl
theorem sz160 : (Tryz.prog.info? 160).map (·.size) = some 20 := by kernel_rfl
theorem zr160 : (Tryz.prog.info? 160).bind (·.zero) = some (.agg #[.int .u64 0, .int .u64 0, .int .u64 0, .int .u64 0, .int .u64 0, .int .u64 0, .int .u64 0, .int .u64 0, .int .u64 0, .int .u64 0, .int .u64 0, .int .u64 0, .int .u64 0, .int .u64 0, .int .u64 0, .int .u64 0, .int .u64 0, .int .u64 0, .int .u64 0, .int .u64 0]) := by kernel_rfl
theorem sz161 : (Tryz.prog.info? 161).map (·.size) = some 65 := by kernel_rfl
theorem zr161 : (Tryz.prog.info? 161).bind (·.zero) = some (.agg (List.replicate 65 (.int .u8 0)).toArray) := by kernel_rfl
theorem sz165 : (Tryz.prog.info? 165).map (·.size) = some 1 := by kernel_rfl
theorem zr165 : (Tryz.prog.info? 165).bind (·.zero) = some (.pointer none) := by kernel_rfl
theorem sz167 : (Tryz.prog.info? 167).map (·.size) = some 1 := by kernel_rfl
theorem zr167 : (Tryz.prog.info? 167).bind (·.zero) = some (.agg #[.string ⟨#[]⟩]) := by kernel_rfl
theorem sz170 : (Tryz.prog.info? 170).map (·.size) = some 256 := by kernel_rfl
theorem zr170 : (Tryz.prog.info? 170).bind (·.zero) = some (.agg (List.replicate 256 (.int .u8 0)).toArray) := by kernel_rfl
theorem sz172 : (Tryz.prog.info? 172).map (·.size) = some 2 := by kernel_rfl
theorem zr172 : (Tryz.prog.info? 172).bind (·.zero) = some (.agg #[.int .u8 0, .int .u8 0]) := by kernel_rfl
theorem sz173 : (Tryz.prog.info? 173).map (·.size) = some 32 := by kernel_rfl
theorem zr173 : (Tryz.prog.info? 173).bind (·.zero) = some (.agg (List.replicate 32 (.int .u8 0)).toArray) := by kernel_rfl
theorem sz175 : (Tryz.prog.info? 175).map (·.size) = some 32 := by kernel_rfl
theorem zr175 : (Tryz.prog.info? 175).bind (·.zero) = some (.agg (List.replicate 32 (.int .u8 0)).toArray) := by kernel_rfl
theorem sz176 : (Tryz.prog.info? 176).map (·.size) = some 64 := by kernel_rfl
theorem zr176 : (Tryz.prog.info? 176).bind (·.zero) = some (.agg (List.replicate 64 (.int .u8 0)).toArray) := by kernel_rfl
theorem sz184 : (Tryz.prog.info? 184).map (·.size) = some 1 := by kernel_rfl
theorem zr184 : (Tryz.prog.info? 184).bind (·.zero) = some (.int .u8 0) := by kernel_rfl
end Go.Proofs.YtbamklefagghcaaGreatDoor

namespace Go.Proofs.YtbamklefagghcaaGreatDoor
open Go.RowKit Go.PK
set_option linter.unusedVariables false
set_option linter.unusedSimpArgs false
set_option maxRecDepth 100000 in
theorem c_capital (c : UInt8) (w : World) :
    Calls Tryz.prog 72 #[.int .u8 (c.toNat : Nat)] w fun e w' => e = .returned (.bool (capB c)) ∧ Later w w' := by
  refine enter (vs := [.int .u8 (c.toNat : Nat)]) Tryz.func72 rfl Tryz.ntmps72 rfl ?_
  refine w_seq ?_
  refine rg_text ?_
  refine x_val rfl rfl rfl (v_assign rfl) ?_
  refine x_end ?_
  refine t_norm ?_
  refine w_seq ?_
  refine rg_text ?_
  refine x_val rfl rfl rfl (v_move rfl) ?_
  refine x_bool rfl rfl rfl (v_geq rfl rfl) ?_
  intro b4 hb4
  refine x_val rfl rfl rfl (v_move rfl) ?_
  refine x_if [] rfl rfl rfl rfl rfl (fun hg => by obtain ⟨hg0, _⟩ := hg; subst hg0; (try simp only [List.cons_append, List.nil_append, gvl_nil, gvl_t, gvl_f]); exact v_move rfl) ?_
  refine x_ifb [] rfl rfl rfl rfl rfl (fun hg => by obtain ⟨hg0, _⟩ := hg; subst hg0; (try simp only [List.cons_append, List.nil_append, gvl_nil, gvl_t, gvl_f]); exact v_leq rfl rfl) ?_
  intro b7 hb7
  refine x_bool rfl rfl rfl (v_and rfl rfl) ?_
  intro b8 hb8
  refine x_val rfl rfl rfl (v_assign rfl) ?_
  refine x_end ?_
  refine t_norm ?_
  refine w_ret ?_
  refine ret1 rfl rfl (fun w' hm => ⟨?_, hm.base (by simp)⟩)
  rw [hb8, hb7, hb4, cap_a]
set_option maxRecDepth 100000 in
theorem c_usual (w : World) :
    Calls Tryz.prog 46 #[] w fun e w' => e = .returned (.agg usualG.cells.toArray) ∧ Later w w' := by
  refine enter (vs := []) Tryz.func46 rfl Tryz.ntmps46 rfl ?_
  refine w_seq ?_
  refine rg_text ?_
  refine x_alloc rfl rfl rfl zr77 ?_
  intro p0
  refine x_end ?_
  refine t_norm ?_
  refine w_seq ?_
  refine rg_text ?_
  refine x_val rfl rfl rfl (v_buildL (places := [(0, 1), (1, 1), (2, 1), (3, 1)]) Tryz.underlying77 zr77 (by kernel_rfl) rfl rfl) ?_
  refine x_store0 [] rfl rfl rfl rfl sz77 rfl rfl ?_
  refine x_end ?_
  refine t_norm ?_
  refine w_ret ?_
  refine retc rfl rfl (.head _) Tryz.underlying77 rfl sz77 (fun w' hm => ⟨rfl, hm.base (by simp)⟩)
set_option maxRecDepth 100000 in
theorem c_list (g : Sg) (w : World) :
    Calls Tryz.prog 51 #[.agg g.cells.toArray] w fun e w' => ∃ v, e = .returned v ∧ Later w w' ∧ sliceRd tyB (fun b => w.heap.size ≤ b) w' v (gl g) := by
  refine enter (vs := [.agg g.cells.toArray]) Tryz.func51 rfl Tryz.ntmps51 rfl ?_
  refine w_seq ?_
  refine rg_text ?_
  refine x_box rfl rfl rfl rfl ?_
  intro p1
  refine x_val rfl rfl rfl (v_assign rfl) ?_
  refine x_end ?_
  refine t_norm ?_
  refine w_seq ?_
  refine rg_text ?_
  refine x_val rfl rfl rfl (v_fieldAddr (off' := 0) Tryz.underlying77 rfl sz5 (by decide) rfl rfl) ?_
  refine x_val rfl rfl rfl (v_load Tryz.underlying5 rfl rfl (by first | exact at_ownL (.head _) rfl | exact at_ownL (.tail _ (.head _)) rfl | exact at_ownL (.tail _ (.tail _ (.head _))) rfl | (apply at_ownL; ((repeat (first | exact List.Mem.head _ | apply List.Mem.tail | apply List.mem_append_right))); rfl) | (refine at_ro (by first | exact .head _ | exact .tail _ (.head _) | exact .tail _ (.tail _ (.head _)) | simp) ?_ (by assumption); trivial))) ?_
  refine x_val rfl rfl rfl (v_fieldAddr (off' := 1) Tryz.underlying77 rfl sz5 (by decide) rfl rfl) ?_
  refine x_val rfl rfl rfl (v_load Tryz.underlying5 rfl rfl (by first | exact at_ownL (.head _) rfl | exact at_ownL (.tail _ (.head _)) rfl | exact at_ownL (.tail _ (.tail _ (.head _))) rfl | (apply at_ownL; ((repeat (first | exact List.Mem.head _ | apply List.Mem.tail | apply List.mem_append_right))); rfl) | (refine at_ro (by first | exact .head _ | exact .tail _ (.head _) | exact .tail _ (.tail _ (.head _)) | simp) ?_ (by assumption); trivial))) ?_
  refine x_val rfl rfl rfl (v_fieldAddr (off' := 2) Tryz.underlying77 rfl sz5 (by decide) rfl rfl) ?_
  refine x_val rfl rfl rfl (v_load Tryz.underlying5 rfl rfl (by first | exact at_ownL (.head _) rfl | exact at_ownL (.tail _ (.head _)) rfl | exact at_ownL (.tail _ (.tail _ (.head _))) rfl | (apply at_ownL; ((repeat (first | exact List.Mem.head _ | apply List.Mem.tail | apply List.mem_append_right))); rfl) | (refine at_ro (by first | exact .head _ | exact .tail _ (.head _) | exact .tail _ (.tail _ (.head _)) | simp) ?_ (by assumption); trivial))) ?_
  refine x_val rfl rfl rfl (v_fieldAddr (off' := 3) Tryz.underlying77 rfl sz5 (by decide) rfl rfl) ?_
  refine x_val rfl rfl rfl (v_load Tryz.underlying5 rfl rfl (by first | exact at_ownL (.head _) rfl | exact at_ownL (.tail _ (.head _)) rfl | exact at_ownL (.tail _ (.tail _ (.head _))) rfl | (apply at_ownL; ((repeat (first | exact List.Mem.head _ | apply List.Mem.tail | apply List.mem_append_right))); rfl) | (refine at_ro (by first | exact .head _ | exact .tail _ (.head _) | exact .tail _ (.tail _ (.head _)) | simp) ?_ (by assumption); trivial))) ?_
  refine x_buildSliceL rfl rfl rfl Tryz.underlying56 sz5 zr5 rfl rfl rfl ?_
  intro p11
  refine x_val rfl rfl rfl (v_assign rfl) ?_
  refine x_end ?_
  refine t_norm ?_
  refine w_ret ?_
  refine ret1 rfl rfl (fun w' hm => ⟨_, rfl, hm.base (by simp), ?_⟩)
  exact row1_rd (e := 5) (r := some (p11, byC (gl g), 4)) (n := 4) (fun c : UInt8 => Value.int .u8 (c.toNat : Nat)) rfl (rowOK_lit rfl (by decide)) rfl (fun _ _ _ _ => rfl) hm (fun p hp => by rw [List.mem_singleton.1 hp]; exact .head _) (fun p hp => by rw [List.mem_singleton.1 hp]; exact hm.newer (by simp) (.head _))
set_option maxRecDepth 100000 in
theorem c_Index {v : Value} {bs : List UInt8} {D : Nat → Prop} (c : UInt8) (w : World) (hbs : sliceRd tyB D w v bs) :
    Calls Tryz.prog 76 #[v, .int .u8 (c.toNat : Nat)] w fun e w' => e = .returned (.int .i64 (fidx (fun x => decide (c = x)) bs)) ∧ Later w w' := by
  obtain ⟨A, cp, rfl, hlc, hmx, hA⟩ := id hbs
  refine enter (vs := [.slice A bs.length cp, .int .u8 (c.toNat : Nat)]) Tryz.func76 rfl Tryz.ntmps76 rfl ?_
  refine w_seq ?_
  refine rg_text ?_
  refine x_val rfl rfl rfl (v_assign rfl) ?_
  refine x_end ?_
  refine t_norm ?_
  refine w_seq ?_
  refine w_seq ?_
  refine rg_text ?_
  refine x_val rfl rfl rfl (v_move rfl) ?_
  refine x_val rfl rfl rfl (v_len_slice Tryz.underlying56 rfl) ?_
  refine x_val rfl rfl rfl (v_move rfl) ?_
  refine x_end ?_
  refine t_norm ?_
  refine w_block ?_
  refine w_loop (σ := Nat) (fun k => k ≤ bs.length ∧ ∀ j (h : j < bs.length), j < k → decide (c = bs[j]) = false) (fun k => [(0, .slice A bs.length cp), (1, Value.int .u8 (c.toNat : Nat)), (7, Value.int .i64 bs.length), (8, Value.int .i64 (k : Nat))]) (fun k => []) (fun k => [(w, fun _ => True)]) (fun k => bs.length - k) (0) (⟨Nat.zero_le _, by intros; omega⟩) (l_start (by repeat (first | exact Sub.nil | refine Sub.cons rfl ?_)) (fun _ h => h)) ?_
  rintro k ⟨hk, hno⟩
  refine w_state ([(0, .slice A bs.length cp), (1, Value.int .u8 (c.toNat : Nat)), (7, Value.int .i64 bs.length), (8, Value.int .i64 (k : Nat))]) ([]) ([(w, fun _ => True)]) ?_
  refine w_seq ?_
  refine rg_text ?_
  refine x_bool rfl rfl rfl (v_lss rfl rfl) ?_
  intro b9 hb9
  refine x_end ?_
  refine t_norm ?_
  refine w_seq ?_
  refine w_cond rfl (fun hc9 => ?_) (fun hc9 => ?_)
  · simp only [hb9, decide_eq_true_eq, decide_eq_false_iff_not, Bool.and_eq_true, Bool.or_eq_true, Bool.and_eq_false_iff, Bool.or_eq_false_iff, Bool.not_eq_true', Bool.not_eq_false', ne_eq, Decidable.not_not] at hc9
    have hkl : k < bs.length := by omega
    obtain ⟨b0, o0, hA0, hD0, hc0⟩ := b_at hbs hkl
    refine w_skip ?_
    refine t_norm ?_
    refine w_seq ?_
    refine w_block ?_
    refine w_seq ?_
    refine rg_text ?_
    refine x_val rfl rfl rfl (v_move rfl) ?_
    refine x_val rfl rfl rfl (v_assign rfl) ?_
    refine x_end ?_
    refine t_norm ?_
    refine w_seq ?_
    refine rg_text ?_
    refine x_val rfl rfl rfl (v_move rfl) ?_
    refine x_val rfl rfl rfl (v_move rfl) ?_
    refine x_val rfl rfl rfl (v_move rfl) ?_
    refine x_val rfl rfl rfl (v_indexAddr Tryz.underlying56 sz5 (congrArg (fun A => some (Value.slice A bs.length cp)) hA0) rfl (by first | omega | (dsimp only; omega)) rfl) ?_
    refine x_val rfl rfl rfl (v_load Tryz.underlying5 rfl rfl (at_ro (.head _) trivial (by rw [Nat.mul_one]; exact hc0))) ?_
    refine x_bool rfl rfl rfl (v_eql rfl rfl) ?_
    intro b16 hb16
    refine x_end ?_
    refine t_norm ?_
    refine w_cond rfl (fun hc16 => ?_) (fun hc16 => ?_)
    · simp only [hb16, decide_eq_true_eq, decide_eq_false_iff_not, Bool.and_eq_true, Bool.or_eq_true, Bool.and_eq_false_iff, Bool.or_eq_false_iff, Bool.not_eq_true', Bool.not_eq_false', ne_eq, Decidable.not_not] at hc16
      refine w_seq ?_
      refine rg_text ?_
      refine x_val rfl rfl rfl (v_move rfl) ?_
      refine x_val rfl rfl rfl (v_assign rfl) ?_
      refine x_end ?_
      refine t_norm ?_
      refine w_ret ?_
      refine b_ret ?_
      refine t_ret ?_
      refine t_ret ?_
      refine b_ret ?_
      refine t_ret ?_
      refine ret1 rfl rfl (fun w' hm => ⟨?_, hm.base (by simp)⟩)
      rw [fidx_at hkl (decide_eq_true (u8_lit.1 hc16)) hno]
    · simp only [hb16, decide_eq_true_eq, decide_eq_false_iff_not, Bool.and_eq_true, Bool.or_eq_true, Bool.and_eq_false_iff, Bool.or_eq_false_iff, Bool.not_eq_true', Bool.not_eq_false', ne_eq, Decidable.not_not] at hc16
      refine w_skip ?_
      refine b_norm ?_
      refine t_norm ?_
      refine rg_text ?_
      refine x_val rfl rfl rfl (v_addi rfl rfl rfl (by first | omega | (dsimp only; omega))) ?_
      refine x_val rfl rfl rfl (v_move rfl) ?_
      refine x_end ?_
      exact l_norm (k + 1) (⟨by omega, fun j h hjk => by rcases Nat.lt_succ_iff_lt_or_eq.1 hjk with h2 | rfl; (· exact hno j h h2); exact decide_eq_false (fun e => hc16 (u8_lit.2 e))⟩) (by omega) (by repeat (first | exact Sub.nil | refine Sub.cons rfl ?_)) (fun _ h => h)
  · simp only [hb9, decide_eq_true_eq, decide_eq_false_iff_not, Bool.and_eq_true, Bool.or_eq_true, Bool.and_eq_false_iff, Bool.or_eq_false_iff, Bool.not_eq_true', Bool.not_eq_false', ne_eq, Decidable.not_not] at hc9
    refine w_exit ?_
    refine t_exit ?_
    refine t_exit ?_
    refine b_hit ?_
    refine t_norm ?_
    refine w_seq ?_
    refine rg_text ?_
    refine x_val rfl rfl rfl (v_assign rfl) ?_
    refine x_end ?_
    refine t_norm ?_
    refine w_ret ?_
    refine ret1 rfl rfl (fun w' hm => ⟨?_, hm.base (by simp)⟩)
    rw [fidx_none (fun j h => hno j h (by omega))]
set_option maxRecDepth 100000 in
theorem c_Contains {v : Value} {bs : List UInt8} {D : Nat → Prop} (c : UInt8) (w : World) (hbs : sliceRd tyB D w v bs) :
    Calls Tryz.prog 50 #[v, .int .u8 (c.toNat : Nat)] w fun e w' => e = .returned (.bool (hasU bs c)) ∧ Later w w' := by
  refine enter (vs := [v, .int .u8 (c.toNat : Nat)]) Tryz.func50 rfl Tryz.ntmps50 rfl ?_
  refine w_seq ?_
  refine rg_text ?_
  refine x_val rfl rfl rfl (v_assign rfl) ?_
  refine x_end ?_
  refine t_norm ?_
  refine w_seq ?_
  refine rg_text ?_
  refine x_val rfl rfl rfl (v_move rfl) ?_
  refine x_val rfl rfl rfl (v_move rfl) ?_
  refine x_callv rfl rfl rfl Tryz.func76 (by kernel_rfl) rfl (fun w1 hw1 => c_Index _ w1 (hbs.keep (Kept.later (hw1.base (by simp))))) ?_
  refine x_bool rfl rfl rfl (v_geq rfl rfl) ?_
  intro b8 hb8
  refine x_val rfl rfl rfl (v_assign rfl) ?_
  refine x_end ?_
  refine t_norm ?_
  refine w_ret ?_
  refine ret1 rfl rfl (fun w' hm => ⟨?_, hm.base (by simp)⟩)
  rw [hb8, Bool.eq_iff_iff.2 (decide_eq_true_iff.trans (fidx_nn _ bs))]; rfl
set_option maxRecDepth 100000 in
theorem c_right (g : Sg) (w : World) :
    Calls Tryz.prog 78 #[.agg g.cells.toArray] w fun e w' => e = .returned (.bool (decide (rightS g))) ∧ Later w w' := by
  refine enter (vs := [.agg g.cells.toArray]) Tryz.func78 rfl Tryz.ntmps78 rfl ?_
  refine w_seq ?_
  refine rg_text ?_
  refine x_box rfl rfl rfl rfl ?_
  intro p1
  refine x_val rfl rfl rfl (v_assign rfl) ?_
  refine x_end ?_
  refine t_norm ?_
  refine w_seq ?_
  refine rg_text ?_
  refine x_val rfl rfl rfl (v_load_blk (e := 77) (fz := (0, 0)) (cs := g.cells.toArray) Tryz.underlying77 rfl rfl (.head _) sz77) ?_
  refine x_call rfl rfl rfl Tryz.func51 (by kernel_rfl) rfl (fun w1 hw1 => c_list g w1) ?_
  intro v7 wa7 wb7 hm7 hl7 hr7
  obtain ⟨A7, c7, hv7, hl7, _⟩ := id hr7
  subst hv7
  refine x_val rfl rfl rfl (v_assign rfl) ?_
  refine x_end ?_
  refine t_norm ?_
  refine w_seq ?_
  refine w_seq ?_
  refine rg_text ?_
  refine x_val rfl rfl rfl (v_move rfl) ?_
  refine x_val rfl rfl rfl (v_len_slice Tryz.underlying56 rfl) ?_
  refine x_val rfl rfl rfl (v_move rfl) ?_
  refine x_end ?_
  refine t_norm ?_
  refine w_block ?_
  refine w_loop (σ := Nat) (fun k => k ≤ 4 ∧ rightL (gl g) k) (fun k => [(3, .slice A7 4 c7), (8, .slice A7 4 c7), (9, Value.int .i64 4), (10, Value.int .i64 (k : Nat))]) (fun k => [(p1, Obj.cells g.cells.toArray 77)]) (fun k => [(wb7, notOwn [(p1, Obj.cells g.cells.toArray 77)]), (w, fun _ => True)]) (fun k => 4 - k) (0) (⟨Nat.zero_le _, trivial⟩) (l_start (by repeat (first | exact Sub.nil | refine Sub.cons rfl ?_)) (fun _ h => h)) ?_
  rintro k ⟨hk, hr⟩
  refine w_state ([(3, .slice A7 4 c7), (8, .slice A7 4 c7), (9, Value.int .i64 4), (10, Value.int .i64 (k : Nat))]) ([(p1, Obj.cells g.cells.toArray 77)]) ([(wb7, notOwn [(p1, Obj.cells g.cells.toArray 77)]), (w, fun _ => True)]) ?_
  refine w_seq ?_
  refine rg_text ?_
  refine x_bool rfl rfl rfl (v_lss rfl rfl) ?_
  intro b11 hb11
  refine x_end ?_
  refine t_norm ?_
  refine w_seq ?_
  refine w_cond rfl (fun hc11 => ?_) (fun hc11 => ?_)
  · simp only [hb11, decide_eq_true_eq, decide_eq_false_iff_not, Bool.and_eq_true, Bool.or_eq_true, Bool.and_eq_false_iff, Bool.or_eq_false_iff, Bool.not_eq_true', Bool.not_eq_false', ne_eq, Decidable.not_not] at hc11
    have hk4 : k < 4 := by omega
    have hkl : k < (gl g).length := hk4
    obtain ⟨b0, o0, hA0, hD0, hc0⟩ := b_at (c := c7) (l := 4) hr7 hkl
    have hgd : (gl g)[k] = ((gl g).getD k 0) := by rw [List.getD_eq_getElem?_getD, List.getElem?_eq_getElem hkl]; rfl
    rw [hgd] at hc0
    generalize hck : ((gl g).getD k 0) = ck at hc0
    have hclr := clr_val ck
    refine w_skip ?_
    refine t_norm ?_
    refine w_seq ?_
    refine w_block ?_
    refine w_seq ?_
    refine rg_text ?_
    refine x_val rfl rfl rfl (v_move rfl) ?_
    refine x_val rfl rfl rfl (v_indexAddr Tryz.underlying56 sz5 (congrArg (fun A => some (Value.slice A 4 c7)) hA0) rfl (by first | omega | (dsimp only; omega)) rfl) ?_
    refine x_val rfl rfl rfl (v_load Tryz.underlying5 rfl rfl (at_ro (.head _) (fun p hp => by rw [List.mem_singleton.1 hp]; have := hm7.lt (p := (p1, Obj.cells g.cells.toArray 77)) (.head _); dsimp only at this ⊢; omega) (by rw [Nat.mul_one]; exact hc0))) ?_
    refine x_val rfl rfl rfl (v_assign rfl) ?_
    refine x_val rfl rfl rfl (v_assign rfl) ?_
    refine x_end ?_
    refine t_norm ?_
    refine w_seq ?_
    refine rg_text ?_
    refine x_val rfl rfl rfl (v_move rfl) ?_
    refine x_bool rfl rfl rfl (v_leq rfl rfl) ?_
    intro b16 hb16
    refine x_val rfl rfl rfl (v_move rfl) ?_
    refine x_if [] rfl rfl rfl rfl rfl (fun hg => by obtain ⟨hg0, _⟩ := hg; subst hg0; (try simp only [List.cons_append, List.nil_append, gvl_nil, gvl_t, gvl_f]); exact v_move rfl) ?_
    refine x_ifb [] rfl rfl rfl rfl rfl (fun hg => by obtain ⟨hg0, _⟩ := hg; subst hg0; (try simp only [List.cons_append, List.nil_append, gvl_nil, gvl_t, gvl_f]); exact v_geq rfl rfl) ?_
    intro b19 hb19
    refine x_if [] rfl rfl rfl rfl rfl (fun hg => by obtain ⟨hg0, _⟩ := hg; subst hg0; (try simp only [List.cons_append, List.nil_append, gvl_nil, gvl_t, gvl_f]); exact v_move rfl) ?_
    refine x_if [(b16, false)] rfl rfl rfl rfl rfl (fun hg => by obtain ⟨hg0, hg1, _⟩ := hg; subst hg0; subst hg1; (try simp only [List.cons_append, List.nil_append, gvl_nil, gvl_t, gvl_f]); exact v_move rfl) ?_
    refine x_ifb [(b16, false)] rfl rfl rfl rfl rfl (fun hg => by obtain ⟨hg0, hg1, _⟩ := hg; subst hg0; subst hg1; (try simp only [List.cons_append, List.nil_append, gvl_nil, gvl_t, gvl_f]); exact v_leq rfl rfl) ?_
    intro b22 hb22
    refine x_ifb [] rfl rfl rfl rfl rfl (fun hg => by obtain ⟨hg0, _⟩ := hg; subst hg0; (try simp only [List.cons_append, List.nil_append, gvl_nil, gvl_t, gvl_f]); exact v_and rfl rfl) ?_
    intro b23 hb23
    refine x_bool rfl rfl rfl (v_or rfl rfl) ?_
    intro b24 hb24
    refine x_val rfl rfl rfl (v_move rfl) ?_
    refine x_if [] rfl rfl rfl rfl rfl (fun hg => by obtain ⟨hg0, _⟩ := hg; subst hg0; (try simp only [List.cons_append, List.nil_append, gvl_nil, gvl_t, gvl_f]); exact v_move rfl) ?_
    refine x_if [] rfl rfl rfl rfl rfl (v := Value.int .u8 ((clr ck).toNat : Nat)) (fun hg => by obtain ⟨hg0, _⟩ := hg; subst hg0; (try simp only [List.cons_append, List.nil_append, gvl_nil, gvl_t, gvl_f]); rw [← hclr]; exact v_andNotK rfl rfl) ?_
    refine x_call_ifb [] rfl rfl rfl rfl rfl Tryz.func72 (by kernel_rfl) (fun hg => by obtain ⟨hg0, _⟩ := hg; subst hg0; (try simp only [List.cons_append, List.nil_append, gvl_nil, gvl_t, gvl_f]); refine ⟨_, rfl, ?_⟩; exact fun w1 hw1 => c_capital _ w1) ?_
    intro b28 hb28
    refine x_bool rfl rfl rfl (v_or rfl rfl) ?_
    intro b29 hb29
    refine x_val rfl rfl rfl (v_move rfl) ?_
    refine x_if [] rfl rfl rfl rfl rfl (fun hg => by obtain ⟨hg0, _⟩ := hg; subst hg0; (try simp only [List.cons_append, List.nil_append, gvl_nil, gvl_t, gvl_f]); exact v_move rfl) ?_
    refine x_if [] rfl rfl rfl rfl rfl (fun hg => by obtain ⟨hg0, _⟩ := hg; subst hg0; (try simp only [List.cons_append, List.nil_append, gvl_nil, gvl_t, gvl_f]); exact v_move rfl) ?_
    refine x_if [] rfl rfl rfl rfl rfl (fun hg => by obtain ⟨hg0, _⟩ := hg; subst hg0; (try simp only [List.cons_append, List.nil_append, gvl_nil, gvl_t, gvl_f]); exact v_scut_to Tryz.underlying56 sz5 rfl rfl (by have : (gl g).length = 4 := rfl; omega)) ?_
    refine x_if [] rfl rfl rfl rfl rfl (fun hg => by obtain ⟨hg0, _⟩ := hg; subst hg0; (try simp only [List.cons_append, List.nil_append, gvl_nil, gvl_t, gvl_f]); exact v_move rfl) ?_
    refine x_call_ifb [] rfl rfl rfl rfl rfl Tryz.func50 (by kernel_rfl) (fun hg => by obtain ⟨hg0, _⟩ := hg; subst hg0; (try simp only [List.cons_append, List.nil_append, gvl_nil, gvl_t, gvl_f]); refine ⟨_, rfl, ?_⟩; exact fun w1 hw1 => c_Contains (bs := (gl g).take k) _ w1 ((keep_new hr7 hw1 (.head _) hm7).take k (by have : (gl g).length = 4 := rfl; omega))) ?_
    intro b35 hb35
    refine x_bool rfl rfl rfl (v_or rfl rfl) ?_
    intro b36 hb36
    refine x_end ?_
    refine t_norm ?_
    refine w_cond rfl (fun hc36 => ?_) (fun hc36 => ?_)
    · have hbad : badAt (gl g) k ↔ b36 = true := by
        rw [hb36, hb35, hb29, hb28, hb24, hb23, hb22, hb19, hb16]
        unfold badAt alnum
        rw [hck]
        simp only [Bool.or_eq_true, Bool.and_eq_true, decide_eq_true_eq, clr_cap]
        by_cases hx : hasU ((gl g).take k) ck = true
        · simp only [hx, or_true]
        · simp only [hx, Bool.false_eq_true, or_false]; omega
      have hB := hbad.2 hc36
      refine w_seq ?_
      refine rg_text ?_
      refine x_val rfl rfl rfl (v_assign rfl) ?_
      refine x_end ?_
      refine t_norm ?_
      refine w_ret ?_
      refine b_ret ?_
      refine t_ret ?_
      refine t_ret ?_
      refine b_ret ?_
      refine t_ret ?_
      refine ret1 rfl rfl (fun w' hm => ⟨?_, hm.base (by simp)⟩)
      rw [decide_eq_false (fun hs => rightL_le hk4 ((rightS_iff g).1 hs) hB)]
    · have hbad : badAt (gl g) k ↔ b36 = true := by
        rw [hb36, hb35, hb29, hb28, hb24, hb23, hb22, hb19, hb16]
        unfold badAt alnum
        rw [hck]
        simp only [Bool.or_eq_true, Bool.and_eq_true, decide_eq_true_eq, clr_cap]
        by_cases hx : hasU ((gl g).take k) ck = true
        · simp only [hx, or_true]
        · simp only [hx, Bool.false_eq_true, or_false]; omega
      have hB : ¬badAt (gl g) k := fun h => by rw [hbad.1 h] at hc36; cases hc36
      refine w_skip ?_
      refine b_norm ?_
      refine t_norm ?_
      refine rg_text ?_
      refine x_val rfl rfl rfl (v_addi rfl rfl rfl (by first | omega | (dsimp only; omega))) ?_
      refine x_val rfl rfl rfl (v_move rfl) ?_
      refine x_end ?_
      exact l_norm (k + 1) (⟨by omega, hr, hB⟩) (by omega) (by repeat (first | exact Sub.nil | refine Sub.cons rfl ?_)) (fun _ h => h)
  · simp only [hb11, decide_eq_true_eq, decide_eq_false_iff_not, Bool.and_eq_true, Bool.or_eq_true, Bool.and_eq_false_iff, Bool.or_eq_false_iff, Bool.not_eq_true', Bool.not_eq_false', ne_eq, Decidable.not_not] at hc11
    obtain rfl : k = 4 := by omega
    refine w_exit ?_
    refine t_exit ?_
    refine t_exit ?_
    refine b_hit ?_
    refine t_norm ?_
    refine w_seq ?_
    refine rg_text ?_
    refine x_val rfl rfl rfl (v_assign rfl) ?_
    refine x_end ?_
    refine t_norm ?_
    refine w_ret ?_
    refine ret1 rfl rfl (fun w' hm => ⟨?_, hm.base (by simp)⟩)
    rw [decide_eq_true ((rightS_iff g).2 hr)]

end Go.Proofs.YtbamklefagghcaaGreatDoor

namespace Go.Proofs.YtbamklefagghcaaGreatDoor
open Go.RowKit Go.PK
set_option linter.unusedVariables false
set_option linter.unusedSimpArgs false
set_option maxRecDepth 100000 in
theorem c_skip {l1 l2 : List (Nat × Obj)} {ro : List Snap} {p : Nat} (g : Sg) (s : ByteArray) (a : Nat) (w : World) (hm : Mem w (l1 ++ (p, Obj.cells (msgC g s (a)).toArray 95) :: l2) ro) (hs : s.size ≤ 200000000) (ha : a ≤ s.size) :
    Calls Tryz.prog 54 #[.pointer (some ⟨p, 0, none⟩)] w fun e w' => e = .returned (.tuple #[]) ∧ Mem w' (l1 ++ (p, Obj.cells (msgC g s (skipP s a)).toArray 95) :: l2) ro := by
  refine enter_in hm (vs := [.pointer (some ⟨p, 0, none⟩)]) Tryz.func54 rfl Tryz.ntmps54 rfl ?_
  refine w_block ?_
  refine w_loop (σ := Nat) (fun x => x ≤ s.size ∧ skipP s x = skipP s a) (fun x => [(0, .pointer (some ⟨p, 0, none⟩))]) (fun x => l1 ++ (p, Obj.cells (msgC g s (x)).toArray 95) :: l2) (fun x => ro) (fun x => s.size - x) (a) (⟨ha, rfl⟩) (l_start (by repeat (first | exact Sub.nil | refine Sub.cons rfl ?_)) (fun _ h => h)) ?_
  rintro x ⟨hx, hk⟩
  refine w_state ([(0, .pointer (some ⟨p, 0, none⟩))]) (l1 ++ (p, Obj.cells (msgC g s (x)).toArray 95) :: l2) (ro) ?_
  refine w_seq ?_
  refine w_seq ?_
  refine rg_draw 46 [(true, 0), (true, 1), (true, 2), (true, 3), (true, 4), (true, 5), (true, 6), (true, 7), (true, 8), (true, 9), (true, 10), (true, 11), (true, 12), (true, 13), (true, 14), (true, 15), (true, 16), (true, 17), (true, 18), (true, 19), (true, 20), (true, 21), (true, 22), (true, 23), (true, 24), (true, 25), (true, 26), (true, 27), (true, 28), (true, 29), (true, 30), (true, 31), (true, 32), (true, 33), (true, 34), (true, 35), (true, 36), (true, 37), (true, 38), (true, 39), (true, 40), (true, 41), (true, 42), (true, 43), (true, 44), (true, 45)] (by kernel_rfl) (by kernel_rfl) ?_
  refine x_val rfl rfl rfl (v_move rfl) ?_
  refine x_val rfl rfl rfl (v_nilCheck rfl) ?_
  refine x_val rfl rfl rfl (v_fieldAddr (off' := 5) Tryz.underlying95 rfl sz3 (by decide) rfl rfl) ?_
  refine x_val rfl rfl rfl (v_load Tryz.underlying3 rfl rfl (at_ownL (vs := msgC g s (x)) (List.mem_append_right _ (.head _)) rfl)) ?_
  refine x_val rfl rfl rfl (v_move rfl) ?_
  refine x_val rfl rfl rfl (v_nilCheck rfl) ?_
  refine x_val rfl rfl rfl (v_fieldAddr (off' := 4) Tryz.underlying95 rfl sz9 (by decide) rfl rfl) ?_
  refine x_val rfl rfl rfl (v_load Tryz.underlying9 rfl rfl (at_ownL (vs := msgC g s (x)) (List.mem_append_right _ (.head _)) rfl)) ?_
  refine x_val rfl rfl rfl (v_len_str Tryz.underlying9 rfl) ?_
  refine x_bool rfl rfl rfl (v_lss rfl rfl) ?_
  intro b11 hb11
  refine x_val rfl rfl rfl (v_move rfl) ?_
  refine x_if [] rfl rfl rfl rfl rfl (fun hg => by obtain ⟨hg0, _⟩ := hg; subst hg0; (try simp only [List.cons_append, List.nil_append, gvl_nil, gvl_t, gvl_f]); exact v_move rfl) ?_
  refine x_if [] rfl rfl rfl rfl rfl (fun hg => by obtain ⟨hg0, _⟩ := hg; subst hg0; (try simp only [List.cons_append, List.nil_append, gvl_nil, gvl_t, gvl_f]); exact v_nilCheck rfl) ?_
  refine x_if [] rfl rfl rfl rfl rfl (fun hg => by obtain ⟨hg0, _⟩ := hg; subst hg0; (try simp only [List.cons_append, List.nil_append, gvl_nil, gvl_t, gvl_f]); exact v_fieldAddr (off' := 4) Tryz.underlying95 rfl sz9 (by decide) rfl rfl) ?_
  refine x_if [] rfl rfl rfl rfl rfl (fun hg => by obtain ⟨hg0, _⟩ := hg; subst hg0; (try simp only [List.cons_append, List.nil_append, gvl_nil, gvl_t, gvl_f]); exact v_load Tryz.underlying9 rfl rfl (at_ownL (vs := msgC g s (x)) (List.mem_append_right _ (.head _)) rfl)) ?_
  refine x_if [] rfl rfl rfl rfl rfl (fun hg => by obtain ⟨hg0, _⟩ := hg; subst hg0; (try simp only [List.cons_append, List.nil_append, gvl_nil, gvl_t, gvl_f]); exact v_move rfl) ?_
  refine x_if [] rfl rfl rfl rfl rfl (fun hg => by obtain ⟨hg0, _⟩ := hg; subst hg0; (try simp only [List.cons_append, List.nil_append, gvl_nil, gvl_t, gvl_f]); exact v_nilCheck rfl) ?_
  refine x_if [] rfl rfl rfl rfl rfl (fun hg => by obtain ⟨hg0, _⟩ := hg; subst hg0; (try simp only [List.cons_append, List.nil_append, gvl_nil, gvl_t, gvl_f]); exact v_fieldAddr (off' := 5) Tryz.underlying95 rfl sz3 (by decide) rfl rfl) ?_
  refine x_if [] rfl rfl rfl rfl rfl (fun hg => by obtain ⟨hg0, _⟩ := hg; subst hg0; (try simp only [List.cons_append, List.nil_append, gvl_nil, gvl_t, gvl_f]); exact v_load Tryz.underlying3 rfl rfl (at_ownL (vs := msgC g s (x)) (List.mem_append_right _ (.head _)) rfl)) ?_
  refine x_if [] rfl rfl rfl rfl rfl (fun hg => by obtain ⟨hg0, _⟩ := hg; subst hg0; (try simp only [List.cons_append, List.nil_append, gvl_nil, gvl_t, gvl_f]); exact v_index Tryz.underlying9 rfl rfl (by have := of_decide_eq_true hb11.symm; omega)) ?_
  refine x_ifb [] rfl rfl rfl rfl rfl (fun hg => by obtain ⟨hg0, _⟩ := hg; subst hg0; (try simp only [List.cons_append, List.nil_append, gvl_nil, gvl_t, gvl_f]); exact v_eql rfl rfl) ?_
  intro b22 hb22
  refine x_if [] rfl rfl rfl rfl rfl (fun hg => by obtain ⟨hg0, _⟩ := hg; subst hg0; (try simp only [List.cons_append, List.nil_append, gvl_nil, gvl_t, gvl_f]); exact v_move rfl) ?_
  refine x_if [(b11, true)] rfl rfl rfl rfl rfl (fun hg => by obtain ⟨hg0, hg1, _⟩ := hg; subst hg0; subst hg1; (try simp only [List.cons_append, List.nil_append, gvl_nil, gvl_t, gvl_f]); exact v_move rfl) ?_
  refine x_if [(b11, true)] rfl rfl rfl rfl rfl (fun hg => by obtain ⟨hg0, hg1, _⟩ := hg; subst hg0; subst hg1; (try simp only [List.cons_append, List.nil_append, gvl_nil, gvl_t, gvl_f]); exact v_nilCheck rfl) ?_
  refine x_if [(b11, true)] rfl rfl rfl rfl rfl (fun hg => by obtain ⟨hg0, hg1, _⟩ := hg; subst hg0; subst hg1; (try simp only [List.cons_append, List.nil_append, gvl_nil, gvl_t, gvl_f]); exact v_fieldAddr (off' := 4) Tryz.underlying95 rfl sz9 (by decide) rfl rfl) ?_
  refine x_if [(b11, true)] rfl rfl rfl rfl rfl (fun hg => by obtain ⟨hg0, hg1, _⟩ := hg; subst hg0; subst hg1; (try simp only [List.cons_append, List.nil_append, gvl_nil, gvl_t, gvl_f]); exact v_load Tryz.underlying9 rfl rfl (at_ownL (vs := msgC g s (x)) (List.mem_append_right _ (.head _)) rfl)) ?_
  refine x_if [(b11, true)] rfl rfl rfl rfl rfl (fun hg => by obtain ⟨hg0, hg1, _⟩ := hg; subst hg0; subst hg1; (try simp only [List.cons_append, List.nil_append, gvl_nil, gvl_t, gvl_f]); exact v_move rfl) ?_
  refine x_if [(b11, true)] rfl rfl rfl rfl rfl (fun hg => by obtain ⟨hg0, hg1, _⟩ := hg; subst hg0; subst hg1; (try simp only [List.cons_append, List.nil_append, gvl_nil, gvl_t, gvl_f]); exact v_nilCheck rfl) ?_
  refine x_if [(b11, true)] rfl rfl rfl rfl rfl (fun hg => by obtain ⟨hg0, hg1, _⟩ := hg; subst hg0; subst hg1; (try simp only [List.cons_append, List.nil_append, gvl_nil, gvl_t, gvl_f]); exact v_fieldAddr (off' := 5) Tryz.underlying95 rfl sz3 (by decide) rfl rfl) ?_
  refine x_if [(b11, true)] rfl rfl rfl rfl rfl (fun hg => by obtain ⟨hg0, hg1, _⟩ := hg; subst hg0; subst hg1; (try simp only [List.cons_append, List.nil_append, gvl_nil, gvl_t, gvl_f]); exact v_load Tryz.underlying3 rfl rfl (at_ownL (vs := msgC g s (x)) (List.mem_append_right _ (.head _)) rfl)) ?_
  refine x_if [(b11, true)] rfl rfl rfl rfl rfl (fun hg => by obtain ⟨hg0, hg1, _⟩ := hg; subst hg0; subst hg1; (try simp only [List.cons_append, List.nil_append, gvl_nil, gvl_t, gvl_f]); exact v_index Tryz.underlying9 rfl rfl (by have := of_decide_eq_true hb11.symm; omega)) ?_
  refine x_ifb [(b11, true)] rfl rfl rfl rfl rfl (fun hg => by obtain ⟨hg0, hg1, _⟩ := hg; subst hg0; subst hg1; (try simp only [List.cons_append, List.nil_append, gvl_nil, gvl_t, gvl_f]); exact v_eql rfl rfl) ?_
  intro b33 hb33
  refine x_ifb [] rfl rfl rfl rfl rfl (fun hg => by obtain ⟨hg0, _⟩ := hg; subst hg0; (try simp only [List.cons_append, List.nil_append, gvl_nil, gvl_t, gvl_f]); exact v_or rfl rfl) ?_
  intro b34 hb34
  refine x_if [] rfl rfl rfl rfl rfl (fun hg => by obtain ⟨hg0, _⟩ := hg; subst hg0; (try simp only [List.cons_append, List.nil_append, gvl_nil, gvl_t, gvl_f]); exact v_move rfl) ?_
  refine x_if [(b11, true)] rfl rfl rfl rfl rfl (fun hg => by obtain ⟨hg0, hg1, _⟩ := hg; subst hg0; subst hg1; (try simp only [List.cons_append, List.nil_append, gvl_nil, gvl_t, gvl_f]); exact v_move rfl) ?_
  refine x_if [(b11, true)] rfl rfl rfl rfl rfl (fun hg => by obtain ⟨hg0, hg1, _⟩ := hg; subst hg0; subst hg1; (try simp only [List.cons_append, List.nil_append, gvl_nil, gvl_t, gvl_f]); exact v_nilCheck rfl) ?_
  refine x_if [(b11, true)] rfl rfl rfl rfl rfl (fun hg => by obtain ⟨hg0, hg1, _⟩ := hg; subst hg0; subst hg1; (try simp only [List.cons_append, List.nil_append, gvl_nil, gvl_t, gvl_f]); exact v_fieldAddr (off' := 4) Tryz.underlying95 rfl sz9 (by decide) rfl rfl) ?_
  refine x_if [(b11, true)] rfl rfl rfl rfl rfl (fun hg => by obtain ⟨hg0, hg1, _⟩ := hg; subst hg0; subst hg1; (try simp only [List.cons_append, List.nil_append, gvl_nil, gvl_t, gvl_f]); exact v_load Tryz.underlying9 rfl rfl (at_ownL (vs := msgC g s (x)) (List.mem_append_right _ (.head _)) rfl)) ?_
  refine x_if [(b11, true)] rfl rfl rfl rfl rfl (fun hg => by obtain ⟨hg0, hg1, _⟩ := hg; subst hg0; subst hg1; (try simp only [List.cons_append, List.nil_append, gvl_nil, gvl_t, gvl_f]); exact v_move rfl) ?_
  refine x_if [(b11, true)] rfl rfl rfl rfl rfl (fun hg => by obtain ⟨hg0, hg1, _⟩ := hg; subst hg0; subst hg1; (try simp only [List.cons_append, List.nil_append, gvl_nil, gvl_t, gvl_f]); exact v_nilCheck rfl) ?_
  refine x_if [(b11, true)] rfl rfl rfl rfl rfl (fun hg => by obtain ⟨hg0, hg1, _⟩ := hg; subst hg0; subst hg1; (try simp only [List.cons_append, List.nil_append, gvl_nil, gvl_t, gvl_f]); exact v_fieldAddr (off' := 5) Tryz.underlying95 rfl sz3 (by decide) rfl rfl) ?_
  refine x_if [(b11, true)] rfl rfl rfl rfl rfl (fun hg => by obtain ⟨hg0, hg1, _⟩ := hg; subst hg0; subst hg1; (try simp only [List.cons_append, List.nil_append, gvl_nil, gvl_t, gvl_f]); exact v_load Tryz.underlying3 rfl rfl (at_ownL (vs := msgC g s (x)) (List.mem_append_right _ (.head _)) rfl)) ?_
  refine x_if [(b11, true)] rfl rfl rfl rfl rfl (fun hg => by obtain ⟨hg0, hg1, _⟩ := hg; subst hg0; subst hg1; (try simp only [List.cons_append, List.nil_append, gvl_nil, gvl_t, gvl_f]); exact v_index Tryz.underlying9 rfl rfl (by have := of_decide_eq_true hb11.symm; omega)) ?_
  refine x_ifb [(b11, true)] rfl rfl rfl rfl rfl (fun hg => by obtain ⟨hg0, hg1, _⟩ := hg; subst hg0; subst hg1; (try simp only [List.cons_append, List.nil_append, gvl_nil, gvl_t, gvl_f]); exact v_eql rfl rfl) ?_
  intro b45 hb45
  refine x_ifb [] rfl rfl rfl rfl rfl (fun hg => by obtain ⟨hg0, _⟩ := hg; subst hg0; (try simp only [List.cons_append, List.nil_append, gvl_nil, gvl_t, gvl_f]); exact v_or rfl rfl) ?_
  intro b46 hb46
  refine x_bool rfl rfl rfl (v_and rfl rfl) ?_
  intro b47 hb47
  refine x_end ?_
  refine t_norm ?_
  refine w_cond rfl (fun hc47 => ?_) (fun hc47 => ?_)
  · have hgo : x < s.size ∧ blankB (byteAt s x) = true := by
      rw [hb47, hb46, hb45, hb34, hb33, hb22, hb11] at hc47
      simp only [Bool.and_eq_true, Bool.or_eq_true, decide_eq_true_eq] at hc47
      exact ⟨by omega, (blank_iff _).2 hc47.2⟩
    refine w_skip ?_
    refine t_norm ?_
    refine w_block ?_
    refine rg_text ?_
    refine x_val rfl rfl rfl (v_move rfl) ?_
    refine x_val rfl rfl rfl (v_nilCheck rfl) ?_
    refine x_val rfl rfl rfl (v_fieldAddr (off' := 5) Tryz.underlying95 rfl sz3 (by decide) rfl rfl) ?_
    refine x_val rfl rfl rfl (v_load Tryz.underlying3 rfl rfl (at_ownL (vs := msgC g s (x)) (List.mem_append_right _ (.head _)) rfl)) ?_
    refine x_val rfl rfl rfl (v_addi rfl rfl rfl (by have := hgo.1; omega)) ?_
    refine x_val rfl rfl rfl (v_nilCheck rfl) ?_
    refine x_val rfl rfl rfl (v_fieldAddr (off' := 5) Tryz.underlying95 rfl sz3 (by decide) rfl rfl) ?_
    refine x_store l1 rfl rfl rfl rfl sz3 rfl (by show 6 ≤ 6; decide) ?_
    refine x_end ?_
    refine b_norm ?_
    exact l_norm (x + 1) ⟨by omega, by rw [← skip_go hgo.1 hgo.2]; exact hk⟩ (by omega) (by repeat (first | exact Sub.nil | refine Sub.cons rfl ?_)) (fun _ h => h)
  · have hns : ¬(x < s.size ∧ blankB (byteAt s x) = true) := fun ⟨h1, h2⟩ => by
      rw [blank_iff] at h2
      rw [hb47, hb46, hb45, hb34, hb33, hb22, hb11, decide_eq_true (show (x : Int) < s.size by omega)] at hc47
      simp only [Bool.true_and, Bool.or_eq_false_iff, decide_eq_false_iff_not] at hc47
      rcases h2 with (h2 | h2) | h2
      · exact hc47.1.1 h2
      · exact hc47.1.2 h2
      · exact hc47.2 h2
    have e : x = skipP s a := by rw [← hk, skip_stop hns]
    subst e
    refine w_exit ?_
    refine t_exit ?_
    refine t_exit ?_
    refine b_hit ?_
    exact ret0 rfl (fun w' hm' => ⟨rfl, hm'⟩)
set_option maxRecDepth 100000 in
theorem c_next {l1 l2 : List (Nat × Obj)} {ro : List Snap} {p : Nat} (g : Sg) (s : ByteArray) (a : Nat) (w : World) (hm : Mem w (l1 ++ (p, Obj.cells (msgC g s (a)).toArray 95) :: l2) ro) (hs : s.size ≤ 200000000) (ha : a < s.size) :
    Calls Tryz.prog 79 #[.pointer (some ⟨p, 0, none⟩)] w fun e w' => e = .returned (.int .u8 ((byteAt s a).toNat : Nat)) ∧ Mem w' (l1 ++ (p, Obj.cells (msgC g s (a + 1)).toArray 95) :: l2) ro := by
  refine enter_in hm (vs := [.pointer (some ⟨p, 0, none⟩)]) Tryz.func79 rfl Tryz.ntmps79 rfl ?_
  refine w_seq ?_
  refine rg_text ?_
  refine x_val rfl rfl rfl (v_assign rfl) ?_
  refine x_end ?_
  refine t_norm ?_
  refine w_seq ?_
  refine rg_text ?_
  refine x_val rfl rfl rfl (v_move rfl) ?_
  refine x_val rfl rfl rfl (v_nilCheck rfl) ?_
  refine x_val rfl rfl rfl (v_fieldAddr (off' := 5) Tryz.underlying95 rfl sz3 (by decide) rfl rfl) ?_
  refine x_val rfl rfl rfl (v_load Tryz.underlying3 rfl rfl (at_ownL (vs := msgC g s (a)) (List.mem_append_right _ (.head _)) rfl)) ?_
  refine x_val rfl rfl rfl (v_addi rfl rfl rfl (by omega)) ?_
  refine x_val rfl rfl rfl (v_nilCheck rfl) ?_
  refine x_val rfl rfl rfl (v_fieldAddr (off' := 5) Tryz.underlying95 rfl sz3 (by decide) rfl rfl) ?_
  refine x_store l1 rfl rfl rfl rfl sz3 rfl (by show 6 ≤ 6; decide) ?_
  refine x_end ?_
  refine t_norm ?_
  refine w_seq ?_
  refine rg_draw 11 [(true, 0), (true, 1), (true, 2), (true, 3), (true, 4), (true, 5), (true, 6), (true, 7), (true, 8), (true, 9), (true, 10)] (by kernel_rfl) (by kernel_rfl) ?_
  refine x_val rfl rfl rfl (v_move rfl) ?_
  refine x_val rfl rfl rfl (v_nilCheck rfl) ?_
  refine x_val rfl rfl rfl (v_fieldAddr (off' := 4) Tryz.underlying95 rfl sz9 (by decide) rfl rfl) ?_
  refine x_val rfl rfl rfl (v_load Tryz.underlying9 rfl rfl (at_ownL (vs := msgC g s (a + 1)) (List.mem_append_right _ (.head _)) rfl)) ?_
  refine x_val rfl rfl rfl (v_move rfl) ?_
  refine x_val rfl rfl rfl (v_nilCheck rfl) ?_
  refine x_val rfl rfl rfl (v_fieldAddr (off' := 5) Tryz.underlying95 rfl sz3 (by decide) rfl rfl) ?_
  refine x_val rfl rfl rfl (v_load Tryz.underlying3 rfl rfl (at_ownL (vs := msgC g s (a + 1)) (List.mem_append_right _ (.head _)) rfl)) ?_
  refine x_val rfl rfl rfl (v_subi (c := (a : Int)) rfl rfl (by omega) (by omega)) ?_
  refine x_val rfl rfl rfl (v_index Tryz.underlying9 rfl rfl (ha)) ?_
  refine x_val rfl rfl rfl (v_assign rfl) ?_
  refine x_end ?_
  refine t_norm ?_
  refine w_ret ?_
  refine ret1 rfl rfl (fun w' hm' => ⟨?_, hm'⟩)
  rfl
set_option maxRecDepth 100000 in
theorem c_tag {l1 l2 : List (Nat × Obj)} {ro : List Snap} {p : Nat} (g : Sg) (s : ByteArray) (a : Nat) (w : World) (hm : Mem w (l1 ++ (p, Obj.cells (msgC g s (a)).toArray 95) :: l2) ro) (hs : s.size ≤ 200000000) (ha : a ≤ s.size) :
    Calls Tryz.prog 55 #[.pointer (some ⟨p, 0, none⟩)] w fun e w' => e = .returned (.tuple #[.string (tagR s g a).1.1, .int .i64 (tagR s g a).1.2.1, .int .i64 (tagR s g a).1.2.2]) ∧ Mem w' (l1 ++ (p, Obj.cells (msgC g s ((tagR s g a).2)).toArray 95) :: l2) ro := by
  have hts := tagAt_size (s := s) (a := a) ha
  refine enter_in hm (vs := [.pointer (some ⟨p, 0, none⟩)]) Tryz.func55 rfl Tryz.ntmps55 rfl ?_
  refine w_seq ?_
  refine rg_text ?_
  refine x_val rfl rfl rfl (v_assign rfl) ?_
  refine x_val rfl rfl rfl (v_assign rfl) ?_
  refine x_val rfl rfl rfl (v_assign rfl) ?_
  refine x_end ?_
  refine t_norm ?_
  refine w_seq ?_
  refine rg_draw 21 [(true, 0), (true, 1), (true, 2), (true, 3), (true, 4), (true, 5), (true, 6), (true, 7), (true, 8), (true, 9), (true, 10), (true, 11), (true, 12), (true, 13), (true, 14), (true, 15), (true, 16), (true, 17), (true, 18), (true, 19), (true, 20)] (by kernel_rfl) (by kernel_rfl) ?_
  refine x_val rfl rfl rfl (v_move rfl) ?_
  refine x_val rfl rfl rfl (v_nilCheck rfl) ?_
  refine x_val rfl rfl rfl (v_fieldAddr (off' := 4) Tryz.underlying95 rfl sz9 (by decide) rfl rfl) ?_
  refine x_val rfl rfl rfl (v_load Tryz.underlying9 rfl rfl (at_ownL (vs := msgC g s (a)) (List.mem_append_right _ (.head _)) rfl)) ?_
  refine x_val rfl rfl rfl (v_move rfl) ?_
  refine x_val rfl rfl rfl (v_nilCheck rfl) ?_
  refine x_val rfl rfl rfl (v_fieldAddr (off' := 5) Tryz.underlying95 rfl sz3 (by decide) rfl rfl) ?_
  refine x_val rfl rfl rfl (v_load Tryz.underlying3 rfl rfl (at_ownL (vs := msgC g s (a)) (List.mem_append_right _ (.head _)) rfl)) ?_
  refine x_val rfl rfl rfl (v_move rfl) ?_
  refine x_val rfl rfl rfl (v_nilCheck rfl) ?_
  refine x_val rfl rfl rfl (v_fieldAddr (off' := 5) Tryz.underlying95 rfl sz3 (by decide) rfl rfl) ?_
  refine x_val rfl rfl rfl (v_load Tryz.underlying3 rfl rfl (at_ownL (vs := msgC g s (a)) (List.mem_append_right _ (.head _)) rfl)) ?_
  refine x_val rfl rfl rfl (v_addi rfl rfl rfl (by omega)) ?_
  refine x_val rfl rfl rfl (v_move rfl) ?_
  refine x_val rfl rfl rfl (v_nilCheck rfl) ?_
  refine x_val rfl rfl rfl (v_fieldAddr (off' := 4) Tryz.underlying95 rfl sz9 (by decide) rfl rfl) ?_
  refine x_val rfl rfl rfl (v_load Tryz.underlying9 rfl rfl (at_ownL (vs := msgC g s (a)) (List.mem_append_right _ (.head _)) rfl)) ?_
  refine x_val rfl rfl rfl (v_len_str Tryz.underlying9 rfl) ?_
  refine x_val (v := Value.int .i64 ((min (a + 3) s.size : Nat) : Int)) rfl rfl rfl (by rw [show ((min (a + 3) s.size : Nat) : Int) = min ((a : Int) + 3) (s.size : Int) by omega]; exact v_min rfl rfl) ?_
  refine x_val (v := Value.string (tagAt s a)) rfl rfl rfl (v_cut Tryz.underlying9 rfl rfl rfl (by omega) (by omega)) ?_
  refine x_val rfl rfl rfl (v_assign rfl) ?_
  refine x_end ?_
  refine t_norm ?_
  refine w_seq ?_
  refine w_seq ?_
  refine rg_text ?_
  refine x_val rfl rfl rfl (v_move rfl) ?_
  refine x_val rfl rfl rfl (v_len_str Tryz.underlying9 rfl) ?_
  refine x_val rfl rfl rfl (v_move rfl) ?_
  refine x_end ?_
  refine t_norm ?_
  refine w_block ?_
  refine w_loop (σ := Nat) (fun k => k ≤ (tagAt s a).size ∧ ∀ j, j < k → capB (byteAt (tagAt s a) j) = true) (fun k => [(0, .pointer (some ⟨p, 0, none⟩)), (5, Value.string (tagAt s a)), (28, Value.int .i64 ((tagAt s a).size : Nat)), (29, Value.int .i64 (k : Nat))]) (fun k => l1 ++ (p, Obj.cells (msgC g s (a)).toArray 95) :: l2) (fun k => ro) (fun k => (tagAt s a).size - k) (0) (⟨Nat.zero_le _, by intros; omega⟩) (l_start (by repeat (first | exact Sub.nil | refine Sub.cons rfl ?_)) (fun _ h => h)) ?_
  rintro k ⟨hk, hc⟩
  refine w_state ([(0, .pointer (some ⟨p, 0, none⟩)), (5, Value.string (tagAt s a)), (28, Value.int .i64 ((tagAt s a).size : Nat)), (29, Value.int .i64 (k : Nat))]) (l1 ++ (p, Obj.cells (msgC g s (a)).toArray 95) :: l2) (ro) ?_
  refine w_seq ?_
  refine rg_text ?_
  refine x_bool rfl rfl rfl (v_lss rfl rfl) ?_
  intro b30 hb30
  refine x_end ?_
  refine t_norm ?_
  refine w_seq ?_
  refine w_cond rfl (fun hc30 => ?_) (fun hc30 => ?_)
  · simp only [hb30, decide_eq_true_eq, decide_eq_false_iff_not, Bool.and_eq_true, Bool.or_eq_true, Bool.and_eq_false_iff, Bool.or_eq_false_iff, Bool.not_eq_true', Bool.not_eq_false', ne_eq, Decidable.not_not] at hc30
    have hkl : k < (tagAt s a).size := by omega
    refine w_skip ?_
    refine t_norm ?_
    refine w_seq ?_
    refine w_block ?_
    refine w_seq ?_
    refine rg_text ?_
    refine x_val rfl rfl rfl (v_move rfl) ?_
    refine x_val rfl rfl rfl (v_assign rfl) ?_
    refine x_end ?_
    refine t_norm ?_
    refine w_seq ?_
    refine rg_text ?_
    refine x_val rfl rfl rfl (v_move rfl) ?_
    refine x_val rfl rfl rfl (v_move rfl) ?_
    refine x_val rfl rfl rfl (v_index Tryz.underlying9 rfl rfl (hkl)) ?_
    refine x_callb rfl rfl rfl Tryz.func72 (by kernel_rfl) rfl (fun w1 hw1 => c_capital _ w1) ?_
    intro b35 hb35
    refine x_bool rfl rfl rfl (v_not rfl) ?_
    intro b36 hb36
    refine x_end ?_
    refine t_norm ?_
    refine w_cond rfl (fun hc36 => ?_) (fun hc36 => ?_)
    · have hnc : ¬allCap (tagAt s a) := fun h => by rw [hb36, hb35, h k hkl] at hc36; cases hc36
      have eT : tagR s g a = ((⟨#[]⟩, ((a : Nat) : Int), 40), a) := by unfold tagR; rw [if_pos hnc]
      rw [eT]
      refine w_seq ?_
      refine rg_draw 7 [(true, 0), (true, 1), (true, 2), (true, 3), (true, 4), (true, 5), (true, 6)] (by kernel_rfl) (by kernel_rfl) ?_
      refine x_val rfl rfl rfl (v_move rfl) ?_
      refine x_val rfl rfl rfl (v_nilCheck rfl) ?_
      refine x_val rfl rfl rfl (v_fieldAddr (off' := 5) Tryz.underlying95 rfl sz3 (by decide) rfl rfl) ?_
      refine x_val rfl rfl rfl (v_load Tryz.underlying3 rfl rfl (at_ownL (vs := msgC g s (a)) (List.mem_append_right _ (.head _)) rfl)) ?_
      refine x_val rfl rfl rfl (v_assign rfl) ?_
      refine x_val rfl rfl rfl (v_assign rfl) ?_
      refine x_val rfl rfl rfl (v_assign rfl) ?_
      refine x_end ?_
      refine t_norm ?_
      refine w_ret ?_
      refine b_ret ?_
      refine t_ret ?_
      refine t_ret ?_
      refine b_ret ?_
      refine t_ret ?_
      refine ret3 rfl rfl rfl rfl (fun w' hm' => ⟨?_, hm'⟩)
      rfl
    · have hcp : capB (byteAt (tagAt s a) k) = true := by rw [hb36, hb35] at hc36; simpa using hc36
      refine w_skip ?_
      refine b_norm ?_
      refine t_norm ?_
      refine rg_text ?_
      refine x_val rfl rfl rfl (v_addi rfl rfl rfl (by first | omega | (dsimp only; omega))) ?_
      refine x_val rfl rfl rfl (v_move rfl) ?_
      refine x_end ?_
      exact l_norm (k + 1) ⟨hkl, fun j hj => by rcases Nat.lt_succ_iff_lt_or_eq.1 hj with h | rfl; (· exact hc j h); exact hcp⟩ (by omega) (by repeat (first | exact Sub.nil | refine Sub.cons rfl ?_)) (fun _ h => h)
  · simp only [hb30, decide_eq_true_eq, decide_eq_false_iff_not, Bool.and_eq_true, Bool.or_eq_true, Bool.and_eq_false_iff, Bool.or_eq_false_iff, Bool.not_eq_true', Bool.not_eq_false', ne_eq, Decidable.not_not] at hc30
    obtain rfl : k = (tagAt s a).size := by omega
    have hall : allCap (tagAt s a) := hc
    refine w_exit ?_
    refine t_exit ?_
    refine t_exit ?_
    refine b_hit ?_
    refine t_norm ?_
    refine w_seq ?_
    refine rg_text ?_
    refine x_val rfl rfl rfl (v_move rfl) ?_
    refine x_val rfl rfl rfl (v_nilCheck rfl) ?_
    refine x_val rfl rfl rfl (v_fieldAddr (off' := 5) Tryz.underlying95 rfl sz3 (by decide) rfl rfl) ?_
    refine x_val rfl rfl rfl (v_load Tryz.underlying3 rfl rfl (at_ownL (vs := msgC g s (a)) (List.mem_append_right _ (.head _)) rfl)) ?_
    refine x_val rfl rfl rfl (v_move rfl) ?_
    refine x_val rfl rfl rfl (v_len_str Tryz.underlying9 rfl) ?_
    refine x_val rfl rfl rfl (v_addi rfl rfl rfl (by omega)) ?_
    refine x_val rfl rfl rfl (v_nilCheck rfl) ?_
    refine x_val rfl rfl rfl (v_fieldAddr (off' := 5) Tryz.underlying95 rfl sz3 (by decide) rfl rfl) ?_
    refine x_store l1 rfl rfl rfl rfl sz3 rfl (by show 6 ≤ 6; decide) ?_
    refine x_end ?_
    refine t_norm ?_
    refine w_seq ?_
    refine w_block ?_
    refine w_seq ?_
    refine rg_draw 16 [(true, 0), (true, 1), (true, 2), (true, 3), (true, 4), (true, 5), (true, 6), (true, 7), (true, 8), (true, 9), (true, 10), (true, 11), (true, 12), (true, 13), (true, 14), (true, 15)] (by kernel_rfl) (by kernel_rfl) ?_
    refine x_val rfl rfl rfl (v_move rfl) ?_
    refine x_val rfl rfl rfl (v_len_str Tryz.underlying9 rfl) ?_
    refine x_bool rfl rfl rfl (v_lss rfl rfl) ?_
    intro b54 hb54
    refine x_val rfl rfl rfl (v_move rfl) ?_
    refine x_if [] rfl rfl rfl rfl rfl (fun hg => by obtain ⟨hg0, _⟩ := hg; subst hg0; (try simp only [List.cons_append, List.nil_append, gvl_nil, gvl_t, gvl_f]); exact v_move rfl) ?_
    refine x_if [] rfl rfl rfl rfl rfl (fun hg => by obtain ⟨hg0, _⟩ := hg; subst hg0; (try simp only [List.cons_append, List.nil_append, gvl_nil, gvl_t, gvl_f]); exact v_nilCheck rfl) ?_
    refine x_if [] rfl rfl rfl rfl rfl (fun hg => by obtain ⟨hg0, _⟩ := hg; subst hg0; (try simp only [List.cons_append, List.nil_append, gvl_nil, gvl_t, gvl_f]); exact v_fieldAddr (off' := 5) Tryz.underlying95 rfl sz3 (by decide) rfl rfl) ?_
    refine x_if [] rfl rfl rfl rfl rfl (fun hg => by obtain ⟨hg0, _⟩ := hg; subst hg0; (try simp only [List.cons_append, List.nil_append, gvl_nil, gvl_t, gvl_f]); exact v_load Tryz.underlying3 rfl rfl (at_ownL (vs := msgC g s (a + (tagAt s a).size)) (List.mem_append_right _ (.head _)) rfl)) ?_
    refine x_if [] rfl rfl rfl rfl rfl (fun hg => by obtain ⟨hg0, _⟩ := hg; subst hg0; (try simp only [List.cons_append, List.nil_append, gvl_nil, gvl_t, gvl_f]); exact v_move rfl) ?_
    refine x_if [] rfl rfl rfl rfl rfl (fun hg => by obtain ⟨hg0, _⟩ := hg; subst hg0; (try simp only [List.cons_append, List.nil_append, gvl_nil, gvl_t, gvl_f]); exact v_nilCheck rfl) ?_
    refine x_if [] rfl rfl rfl rfl rfl (fun hg => by obtain ⟨hg0, _⟩ := hg; subst hg0; (try simp only [List.cons_append, List.nil_append, gvl_nil, gvl_t, gvl_f]); exact v_fieldAddr (off' := 4) Tryz.underlying95 rfl sz9 (by decide) rfl rfl) ?_
    refine x_if [] rfl rfl rfl rfl rfl (fun hg => by obtain ⟨hg0, _⟩ := hg; subst hg0; (try simp only [List.cons_append, List.nil_append, gvl_nil, gvl_t, gvl_f]); exact v_load Tryz.underlying9 rfl rfl (at_ownL (vs := msgC g s (a + (tagAt s a).size)) (List.mem_append_right _ (.head _)) rfl)) ?_
    refine x_if [] rfl rfl rfl rfl rfl (fun hg => by obtain ⟨hg0, _⟩ := hg; subst hg0; (try simp only [List.cons_append, List.nil_append, gvl_nil, gvl_t, gvl_f]); exact v_len_str Tryz.underlying9 rfl) ?_
    refine x_ifb [] rfl rfl rfl rfl rfl (fun hg => by obtain ⟨hg0, _⟩ := hg; subst hg0; (try simp only [List.cons_append, List.nil_append, gvl_nil, gvl_t, gvl_f]); exact v_eql rfl rfl) ?_
    intro b65 hb65
    refine x_bool rfl rfl rfl (v_or rfl rfl) ?_
    intro b66 hb66
    refine x_val rfl rfl rfl (v_assign rfl) ?_
    refine x_end ?_
    refine t_norm ?_
    refine w_cond rfl (fun hc51 => ?_) (fun hc51 => ?_)
    · have hor : (tagAt s a).size < 3 ∨ a + (tagAt s a).size = s.size := by rw [hb66, hb65, hb54] at hc51; simp only [Bool.or_eq_true, decide_eq_true_eq] at hc51; omega
      have eT : tagR s g a = ((⟨#[]⟩, ((s.size : Nat) : Int), 10), a + (tagAt s a).size) := by unfold tagR; rw [if_neg (fun h => h hall), if_pos hor]
      rw [eT]
      refine w_seq ?_
      refine rg_draw 8 [(true, 0), (true, 1), (true, 2), (true, 3), (true, 4), (true, 5), (true, 6), (true, 7)] (by kernel_rfl) (by kernel_rfl) ?_
      refine x_val rfl rfl rfl (v_move rfl) ?_
      refine x_val rfl rfl rfl (v_nilCheck rfl) ?_
      refine x_val rfl rfl rfl (v_fieldAddr (off' := 4) Tryz.underlying95 rfl sz9 (by decide) rfl rfl) ?_
      refine x_val rfl rfl rfl (v_load Tryz.underlying9 rfl rfl (at_ownL (vs := msgC g s (a + (tagAt s a).size)) (List.mem_append_right _ (.head _)) rfl)) ?_
      refine x_val rfl rfl rfl (v_len_str Tryz.underlying9 rfl) ?_
      refine x_val rfl rfl rfl (v_assign rfl) ?_
      refine x_val rfl rfl rfl (v_assign rfl) ?_
      refine x_val rfl rfl rfl (v_assign rfl) ?_
      refine x_end ?_
      refine t_norm ?_
      refine w_ret ?_
      refine b_ret ?_
      refine t_ret ?_
      refine ret3 rfl rfl rfl rfl (fun w' hm' => ⟨?_, hm'⟩)
      rfl
    · have hor : ¬((tagAt s a).size < 3 ∨ a + (tagAt s a).size = s.size) := by rw [hb66, hb65, hb54] at hc51; simp only [Bool.or_eq_false_iff, decide_eq_false_iff_not] at hc51; omega
      refine w_seq ?_
      refine rg_draw 33 [(true, 0), (true, 1), (true, 2), (true, 3), (true, 4), (true, 5), (true, 6), (true, 7), (true, 8), (true, 9), (true, 10), (true, 11), (true, 12), (true, 13), (true, 14), (true, 15), (true, 16), (true, 17), (true, 18), (true, 19), (true, 20), (true, 21), (true, 22), (true, 23), (true, 24), (true, 25), (true, 26), (true, 27), (true, 28), (true, 29), (true, 30), (true, 31), (true, 32)] (by kernel_rfl) (by kernel_rfl) ?_
      refine x_val rfl rfl rfl (v_move rfl) ?_
      refine x_val rfl rfl rfl (v_nilCheck rfl) ?_
      refine x_val rfl rfl rfl (v_fieldAddr (off' := 4) Tryz.underlying95 rfl sz9 (by decide) rfl rfl) ?_
      refine x_val rfl rfl rfl (v_load Tryz.underlying9 rfl rfl (at_ownL (vs := msgC g s (a + (tagAt s a).size)) (List.mem_append_right _ (.head _)) rfl)) ?_
      refine x_val rfl rfl rfl (v_move rfl) ?_
      refine x_val rfl rfl rfl (v_nilCheck rfl) ?_
      refine x_val rfl rfl rfl (v_fieldAddr (off' := 5) Tryz.underlying95 rfl sz3 (by decide) rfl rfl) ?_
      refine x_val rfl rfl rfl (v_load Tryz.underlying3 rfl rfl (at_ownL (vs := msgC g s (a + (tagAt s a).size)) (List.mem_append_right _ (.head _)) rfl)) ?_
      refine x_val rfl rfl rfl (v_index Tryz.underlying9 rfl rfl (by omega)) ?_
      refine x_val rfl rfl rfl (v_move rfl) ?_
      refine x_val rfl rfl rfl (v_nilCheck rfl) ?_
      refine x_val rfl rfl rfl (v_fieldAddr (off' := 0) Tryz.underlying95 rfl sz77 (by decide) rfl rfl) ?_
      refine x_val rfl rfl rfl (v_fieldAddr (off' := 1) Tryz.underlying77 rfl sz5 (by decide) rfl rfl) ?_
      refine x_val rfl rfl rfl (v_load Tryz.underlying5 rfl rfl (at_ownL (vs := msgC g s (a + (tagAt s a).size)) (List.mem_append_right _ (.head _)) rfl)) ?_
      refine x_bool rfl rfl rfl (v_neq rfl rfl) ?_
      intro b87 hb87
      refine x_val rfl rfl rfl (v_move rfl) ?_
      refine x_if [] rfl rfl rfl rfl rfl (fun hg => by obtain ⟨hg0, _⟩ := hg; subst hg0; (try simp only [List.cons_append, List.nil_append, gvl_nil, gvl_t, gvl_f]); exact v_move rfl) ?_
      refine x_if [] rfl rfl rfl rfl rfl (fun hg => by obtain ⟨hg0, _⟩ := hg; subst hg0; (try simp only [List.cons_append, List.nil_append, gvl_nil, gvl_t, gvl_f]); exact v_nilCheck rfl) ?_
      refine x_if [] rfl rfl rfl rfl rfl (fun hg => by obtain ⟨hg0, _⟩ := hg; subst hg0; (try simp only [List.cons_append, List.nil_append, gvl_nil, gvl_t, gvl_f]); exact v_fieldAddr (off' := 4) Tryz.underlying95 rfl sz9 (by decide) rfl rfl) ?_
      refine x_if [] rfl rfl rfl rfl rfl (fun hg => by obtain ⟨hg0, _⟩ := hg; subst hg0; (try simp only [List.cons_append, List.nil_append, gvl_nil, gvl_t, gvl_f]); exact v_load Tryz.underlying9 rfl rfl (at_ownL (vs := msgC g s (a + (tagAt s a).size)) (List.mem_append_right _ (.head _)) rfl)) ?_
      refine x_if [] rfl rfl rfl rfl rfl (fun hg => by obtain ⟨hg0, _⟩ := hg; subst hg0; (try simp only [List.cons_append, List.nil_append, gvl_nil, gvl_t, gvl_f]); exact v_move rfl) ?_
      refine x_if [] rfl rfl rfl rfl rfl (fun hg => by obtain ⟨hg0, _⟩ := hg; subst hg0; (try simp only [List.cons_append, List.nil_append, gvl_nil, gvl_t, gvl_f]); exact v_nilCheck rfl) ?_
      refine x_if [] rfl rfl rfl rfl rfl (fun hg => by obtain ⟨hg0, _⟩ := hg; subst hg0; (try simp only [List.cons_append, List.nil_append, gvl_nil, gvl_t, gvl_f]); exact v_fieldAddr (off' := 5) Tryz.underlying95 rfl sz3 (by decide) rfl rfl) ?_
      refine x_if [] rfl rfl rfl rfl rfl (fun hg => by obtain ⟨hg0, _⟩ := hg; subst hg0; (try simp only [List.cons_append, List.nil_append, gvl_nil, gvl_t, gvl_f]); exact v_load Tryz.underlying3 rfl rfl (at_ownL (vs := msgC g s (a + (tagAt s a).size)) (List.mem_append_right _ (.head _)) rfl)) ?_
      refine x_if [] rfl rfl rfl rfl rfl (fun hg => by obtain ⟨hg0, _⟩ := hg; subst hg0; (try simp only [List.cons_append, List.nil_append, gvl_nil, gvl_t, gvl_f]); exact v_index Tryz.underlying9 rfl rfl (by omega)) ?_
      refine x_if [] rfl rfl rfl rfl rfl (fun hg => by obtain ⟨hg0, _⟩ := hg; subst hg0; (try simp only [List.cons_append, List.nil_append, gvl_nil, gvl_t, gvl_f]); exact v_move rfl) ?_
      refine x_if [] rfl rfl rfl rfl rfl (fun hg => by obtain ⟨hg0, _⟩ := hg; subst hg0; (try simp only [List.cons_append, List.nil_append, gvl_nil, gvl_t, gvl_f]); exact v_nilCheck rfl) ?_
      refine x_if [] rfl rfl rfl rfl rfl (fun hg => by obtain ⟨hg0, _⟩ := hg; subst hg0; (try simp only [List.cons_append, List.nil_append, gvl_nil, gvl_t, gvl_f]); exact v_fieldAddr (off' := 0) Tryz.underlying95 rfl sz77 (by decide) rfl rfl) ?_
      refine x_if [] rfl rfl rfl rfl rfl (fun hg => by obtain ⟨hg0, _⟩ := hg; subst hg0; (try simp only [List.cons_append, List.nil_append, gvl_nil, gvl_t, gvl_f]); exact v_fieldAddr (off' := 3) Tryz.underlying77 rfl sz5 (by decide) rfl rfl) ?_
      refine x_if [] rfl rfl rfl rfl rfl (fun hg => by obtain ⟨hg0, _⟩ := hg; subst hg0; (try simp only [List.cons_append, List.nil_append, gvl_nil, gvl_t, gvl_f]); exact v_load Tryz.underlying5 rfl rfl (at_ownL (vs := msgC g s (a + (tagAt s a).size)) (List.mem_append_right _ (.head _)) rfl)) ?_
      refine x_ifb [] rfl rfl rfl rfl rfl (fun hg => by obtain ⟨hg0, _⟩ := hg; subst hg0; (try simp only [List.cons_append, List.nil_append, gvl_nil, gvl_t, gvl_f]); exact v_neq rfl rfl) ?_
      intro b103 hb103
      refine x_bool rfl rfl rfl (v_and rfl rfl) ?_
      intro b104 hb104
      refine x_val rfl rfl rfl (v_assign rfl) ?_
      refine x_end ?_
      refine t_norm ?_
      refine w_cond rfl (fun hc72 => ?_) (fun hc72 => ?_)
      · have hne : byteAt s (a + (tagAt s a).size) ≠ g.e ∧ byteAt s (a + (tagAt s a).size) ≠ g.n := by rw [hb104, hb103, hb87] at hc72; simp only [Bool.and_eq_true, Bool.not_eq_true', decide_eq_false_iff_not, decide_eq_true_eq, ne_eq, u8_lit] at hc72; exact hc72
        have eT : tagR s g a = ((⟨#[]⟩, ((a + (tagAt s a).size : Nat) : Int), 40), a + (tagAt s a).size) := by unfold tagR; rw [if_neg (fun h => h hall), if_neg hor, if_pos hne]
        rw [eT]
        refine w_seq ?_
        refine rg_draw 7 [(true, 0), (true, 1), (true, 2), (true, 3), (true, 4), (true, 5), (true, 6)] (by kernel_rfl) (by kernel_rfl) ?_
        refine x_val rfl rfl rfl (v_move rfl) ?_
        refine x_val rfl rfl rfl (v_nilCheck rfl) ?_
        refine x_val rfl rfl rfl (v_fieldAddr (off' := 5) Tryz.underlying95 rfl sz3 (by decide) rfl rfl) ?_
        refine x_val rfl rfl rfl (v_load Tryz.underlying3 rfl rfl (at_ownL (vs := msgC g s (a + (tagAt s a).size)) (List.mem_append_right _ (.head _)) rfl)) ?_
        refine x_val rfl rfl rfl (v_assign rfl) ?_
        refine x_val rfl rfl rfl (v_assign rfl) ?_
        refine x_val rfl rfl rfl (v_assign rfl) ?_
        refine x_end ?_
        refine t_norm ?_
        refine w_ret ?_
        refine b_ret ?_
        refine t_ret ?_
        refine ret3 rfl rfl rfl rfl (fun w' hm' => ⟨?_, hm'⟩)
        rfl
      · have hne : ¬(byteAt s (a + (tagAt s a).size) ≠ g.e ∧ byteAt s (a + (tagAt s a).size) ≠ g.n) := fun ⟨h1, h2⟩ => by rw [hb104, hb103, hb87] at hc72; simp only [u8_lit, ne_eq, h1, h2] at hc72; revert hc72; simp
        have eT : tagR s g a = (((tagAt s a), 0, 0), a + (tagAt s a).size) := by unfold tagR; rw [if_neg (fun h => h hall), if_neg hor, if_neg hne]
        rw [eT]
        refine w_skip ?_
        refine b_norm ?_
        refine t_norm ?_
        refine w_seq ?_
        refine rg_text ?_
        refine x_val rfl rfl rfl (v_move rfl) ?_
        refine x_val rfl rfl rfl (v_assign rfl) ?_
        refine x_val rfl rfl rfl (v_assign rfl) ?_
        refine x_val rfl rfl rfl (v_assign rfl) ?_
        refine x_end ?_
        refine t_norm ?_
        refine w_ret ?_
        refine ret3 rfl rfl rfl rfl (fun w' hm' => ⟨?_, hm'⟩)
        rfl

end Go.Proofs.YtbamklefagghcaaGreatDoor
