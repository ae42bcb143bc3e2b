import Derived.Test.YtmihkbciilloaaaWx
import Derived.Test.YtmihkbciilloaaaPkTree
namespace Go.Proofs.Ytmihkbciilloaaa
open Go.RowKit Go.PK
set_option linter.unusedVariables false
set_option linter.unusedSimpArgs false

theorem s_fix2 {K : Act → World → Prop} {n : Nat} {l : List (Nat × Value)} {own own' : List (Nat × Obj)} {ro : List Snap} (hs : own'.Sublist own) (h : ∀ w0, Mem w0 own ro → own'.Sublist own → S K n l own' ((w0, notOwn own') :: ro)) : S K n l own ro :=
  s_fix own' hs (fun w0 hm => h w0 hm hs)
set_option maxRecDepth 100000 in
theorem c6 {a0 a1 a2 a3 a4 b0 b1 b2 b3 c0 c1 c2 c3 : ByteArray} (w : World) (ha : okS a0 ∧ okS a1 ∧ okS a2 ∧ okS a3 ∧ okS a4) (hb : okS b0 ∧ okS b1 ∧ okS b2 ∧ okS b3) (hc : okS c0 ∧ okS c1 ∧ okS c2 ∧ okS c3) :
    Calls Try.prog 6 #[.agg #[.string a0, .string a1, .string a2, .string a3, .string a4], .agg #[.string b0, .string b1, .string b2, .string b3], .agg #[.string c0, .string c1, .string c2, .string c3]] w fun e w' => e = .returned (.bool (true)) ∧ Later w w' := by
  have hr0 : Rl.ok (⟨a0, true, true, a1, a2, a3, a4⟩ : Rl) := ha
  refine enter (vs := [.agg #[.string a0, .string a1, .string a2, .string a3, .string a4], .agg #[.string b0, .string b1, .string b2, .string b3], .agg #[.string c0, .string c1, .string c2, .string c3]]) Try.func6 rfl Try.ntmps6 rfl ?_
  refine w_seq ?_
  refine rg_text ?_
  refine x_box rfl rfl rfl rfl ?_
  intro p3
  refine x_box rfl rfl rfl rfl ?_
  intro p4
  refine x_box rfl rfl rfl rfl ?_
  intro p5
  refine x_val rfl rfl rfl (v_assign rfl) ?_
  refine x_end ?_
  refine t_norm ?_
  refine w_seq ?_
  refine rg_text ?_
  refine x_callb rfl rfl rfl Try.func11 (by kernel_rfl) rfl (fun w1 hw1 => c11 w1) ?_
  intro b12 hb12
  obtain rfl : b12 = true := hb12
  refine x_val rfl rfl rfl (v_assign rfl) ?_
  refine x_end ?_
  refine t_norm ?_
  refine w_seq ?_
  refine rg_text ?_
  refine x_val rfl rfl rfl (v_indexArr (j := 0) (off' := 0) Try.underlying42 sz9 rfl rfl (by first | omega | (dsimp only; omega)) rfl) ?_
  refine x_val rfl rfl rfl (v_load Try.underlying9 rfl rfl (by first | exact at_ownL (.head _) rfl | exact at_ownL (.tail _ (.head _)) rfl | exact at_ownL (.tail _ (.tail _ (.head _))) rfl | (apply at_ownL; ((repeat (first | exact List.Mem.head _ | apply List.Mem.tail | apply List.mem_append_right))); rfl) | (refine at_ro (by first | exact .head _ | exact .tail _ (.head _) | exact .tail _ (.tail _ (.head _)) | simp) ?_ (by assumption); trivial))) ?_
  refine x_val rfl rfl rfl (v_indexArr (j := 1) (off' := 1) Try.underlying42 sz9 rfl rfl (by first | omega | (dsimp only; omega)) rfl) ?_
  refine x_val rfl rfl rfl (v_load Try.underlying9 rfl rfl (by first | exact at_ownL (.head _) rfl | exact at_ownL (.tail _ (.head _)) rfl | exact at_ownL (.tail _ (.tail _ (.head _))) rfl | (apply at_ownL; ((repeat (first | exact List.Mem.head _ | apply List.Mem.tail | apply List.mem_append_right))); rfl) | (refine at_ro (by first | exact .head _ | exact .tail _ (.head _) | exact .tail _ (.tail _ (.head _)) | simp) ?_ (by assumption); trivial))) ?_
  refine x_val rfl rfl rfl (v_indexArr (j := 2) (off' := 2) Try.underlying42 sz9 rfl rfl (by first | omega | (dsimp only; omega)) rfl) ?_
  refine x_val rfl rfl rfl (v_load Try.underlying9 rfl rfl (by first | exact at_ownL (.head _) rfl | exact at_ownL (.tail _ (.head _)) rfl | exact at_ownL (.tail _ (.tail _ (.head _))) rfl | (apply at_ownL; ((repeat (first | exact List.Mem.head _ | apply List.Mem.tail | apply List.mem_append_right))); rfl) | (refine at_ro (by first | exact .head _ | exact .tail _ (.head _) | exact .tail _ (.tail _ (.head _)) | simp) ?_ (by assumption); trivial))) ?_
  refine x_val rfl rfl rfl (v_buildArr Try.underlying25 zr25 sz9 rfl rfl) ?_
  refine x_val rfl rfl rfl (v_indexArr (j := 3) (off' := 3) Try.underlying42 sz9 rfl rfl (by first | omega | (dsimp only; omega)) rfl) ?_
  refine x_val rfl rfl rfl (v_load Try.underlying9 rfl rfl (by first | exact at_ownL (.head _) rfl | exact at_ownL (.tail _ (.head _)) rfl | exact at_ownL (.tail _ (.tail _ (.head _))) rfl | (apply at_ownL; ((repeat (first | exact List.Mem.head _ | apply List.Mem.tail | apply List.mem_append_right))); rfl) | (refine at_ro (by first | exact .head _ | exact .tail _ (.head _) | exact .tail _ (.tail _ (.head _)) | simp) ?_ (by assumption); trivial))) ?_
  refine x_val rfl rfl rfl (v_indexArr (j := 4) (off' := 4) Try.underlying42 sz9 rfl rfl (by first | omega | (dsimp only; omega)) rfl) ?_
  refine x_val rfl rfl rfl (v_load Try.underlying9 rfl rfl (by first | exact at_ownL (.head _) rfl | exact at_ownL (.tail _ (.head _)) rfl | exact at_ownL (.tail _ (.tail _ (.head _))) rfl | (apply at_ownL; ((repeat (first | exact List.Mem.head _ | apply List.Mem.tail | apply List.mem_append_right))); rfl) | (refine at_ro (by first | exact .head _ | exact .tail _ (.head _) | exact .tail _ (.tail _ (.head _)) | simp) ?_ (by assumption); trivial))) ?_
  refine x_val rfl rfl rfl (v_buildL (places := [(0, 1), (1, 1), (2, 1), (3, 2), (5, 1), (6, 1)]) Try.underlying27 zr27 (by kernel_rfl) rfl rfl) ?_
  refine x_buildSliceL (cs := Rl.cells (⟨a0, true, true, a1, a2, a3, a4⟩ : Rl)) rfl rfl rfl Try.underlying23 sz27 zr27 rfl rfl rfl ?_
  intro p25
  refine x_val rfl rfl rfl (v_assign rfl) ?_
  refine x_end ?_
  refine t_norm ?_
  refine w_seq ?_
  refine rg_text ?_
  refine x_val rfl rfl rfl (v_assign rfl) ?_
  refine x_end ?_
  refine t_norm ?_
  refine w_seq_cut (σ := Nat × World × Value × List Fl) (fun y => sliceRd tyFl (newD w [(y.1, Obj.cells [Value.int .u8 0, .int .u8 0, y.2.2.1].toArray 32), (p25, Obj.cells (Rl.cells (⟨a0, true, true, a1, a2, a3, a4⟩ : Rl)).toArray 27)]) y.2.1 y.2.2.1 y.2.2.2 ∧ y.2.2.2.length ≤ 3) (fun y => [(7, .bool true), (8, .slice (some ⟨p25, 0, none⟩) 1 1), (10, .pointer (some ⟨y.1, 0, none⟩))]) (fun y => [(y.1, Obj.cells [Value.int .u8 0, .int .u8 0, y.2.2.1].toArray 32), (p25, Obj.cells (Rl.cells (⟨a0, true, true, a1, a2, a3, a4⟩ : Rl)).toArray 27)]) (fun y => [(y.2.1, notOwn [(y.1, Obj.cells [Value.int .u8 0, .int .u8 0, y.2.2.1].toArray 32), (p25, Obj.cells (Rl.cells (⟨a0, true, true, a1, a2, a3, a4⟩ : Rl)).toArray 27)]), (w, fun _ => True)]) ?_ ?_
  · refine rg_tree 18 (.flt 0 (.flt 1 (.flt 3 (.flt 4 (.flt 6 (.flt 7 (.flt 8 (.flt 9 (.flt 10 (.flt 11 (.flt 12 (.flt 13 (.gr 2 (.gr 5 (.gr 14 (.gr 15 (.flt 16 (.gr 17 .done .nil)) (.gr 17 (.gr 15 (.flt 16 .done) .nil) .nil)) (.gr 17 (.gr 14 (.gr 15 (.flt 16 .done) .nil) .nil) .nil)) (.gr 17 (.gr 5 (.gr 14 (.gr 15 (.flt 16 .done) .nil) .nil) .nil) .nil)) (.gr 17 (.gr 2 (.gr 5 (.gr 14 (.gr 15 (.flt 16 .done) .nil) .nil) .nil) .nil) .nil)))))))))))))) (by kernel_rfl) (by kernel_rfl) ?_
    refine t_flt (Q := fun _ _ _ => False) ?_
    refine x_val rfl rfl rfl (v_move rfl) ?_
    refine x_end ?_
    refine t_flt (Q := fun _ _ _ => False) ?_
    refine x_val rfl rfl rfl (v_load_blk Try.underlying43 rfl rfl (by first | exact .head _ | exact .tail _ (.head _) | exact .tail _ (.tail _ (.head _)) | (repeat (first | exact List.Mem.head _ | apply List.Mem.tail | apply List.mem_append_right))) (by exact sz43)) ?_
    refine x_end ?_
    refine t_flt (Q := fun _ _ _ => False) ?_
    refine x_val rfl rfl rfl (v_move rfl) ?_
    refine x_end ?_
    refine t_flt (Q := fun _ _ _ => False) ?_
    refine x_val rfl rfl rfl (v_load_blk Try.underlying43 rfl rfl (by first | exact .head _ | exact .tail _ (.head _) | exact .tail _ (.tail _ (.head _)) | (repeat (first | exact List.Mem.head _ | apply List.Mem.tail | apply List.mem_append_right))) (by exact sz43)) ?_
    refine x_end ?_
    refine t_flt (Q := fun _ _ _ => False) ?_
    refine x_val rfl rfl rfl (v_move rfl) ?_
    refine x_end ?_
    refine t_flt (Q := fun _ _ _ => False) ?_
    refine x_val rfl rfl rfl (v_indexArr (j := 0) (off' := 0) Try.underlying42 sz9 rfl rfl (by first | omega | (dsimp only; omega)) rfl) ?_
    refine x_end ?_
    refine t_flt (Q := fun _ _ _ => False) ?_
    refine x_val rfl rfl rfl (v_load Try.underlying9 rfl rfl (by first | exact at_ownL (.head _) rfl | exact at_ownL (.tail _ (.head _)) rfl | exact at_ownL (.tail _ (.tail _ (.head _))) rfl | (apply at_ownL; ((repeat (first | exact List.Mem.head _ | apply List.Mem.tail | apply List.mem_append_right))); rfl) | (refine at_ro (by first | exact .head _ | exact .tail _ (.head _) | exact .tail _ (.tail _ (.head _)) | simp) ?_ (by assumption); trivial))) ?_
    refine x_end ?_
    refine t_flt (Q := fun _ _ _ => False) ?_
    refine x_val rfl rfl rfl (v_indexArr (j := 1) (off' := 1) Try.underlying43 sz9 rfl rfl (by first | omega | (dsimp only; omega)) rfl) ?_
    refine x_end ?_
    refine t_flt (Q := fun _ _ _ => False) ?_
    refine x_val rfl rfl rfl (v_load Try.underlying9 rfl rfl (by first | exact at_ownL (.head _) rfl | exact at_ownL (.tail _ (.head _)) rfl | exact at_ownL (.tail _ (.tail _ (.head _))) rfl | (apply at_ownL; ((repeat (first | exact List.Mem.head _ | apply List.Mem.tail | apply List.mem_append_right))); rfl) | (refine at_ro (by first | exact .head _ | exact .tail _ (.head _) | exact .tail _ (.tail _ (.head _)) | simp) ?_ (by assumption); trivial))) ?_
    refine x_end ?_
    refine t_flt (Q := fun _ _ _ => False) ?_
    refine x_val rfl rfl rfl (v_indexArr (j := 3) (off' := 3) Try.underlying43 sz9 rfl rfl (by first | omega | (dsimp only; omega)) rfl) ?_
    refine x_end ?_
    refine t_flt (Q := fun _ _ _ => False) ?_
    refine x_val rfl rfl rfl (v_load Try.underlying9 rfl rfl (by first | exact at_ownL (.head _) rfl | exact at_ownL (.tail _ (.head _)) rfl | exact at_ownL (.tail _ (.tail _ (.head _))) rfl | (apply at_ownL; ((repeat (first | exact List.Mem.head _ | apply List.Mem.tail | apply List.mem_append_right))); rfl) | (refine at_ro (by first | exact .head _ | exact .tail _ (.head _) | exact .tail _ (.tail _ (.head _)) | simp) ?_ (by assumption); trivial))) ?_
    refine x_end ?_
    refine t_flt (Q := fun _ _ _ => False) ?_
    refine x_val rfl rfl rfl (v_buildArr Try.underlying43 zr43 sz9 rfl rfl) ?_
    refine x_end ?_
    refine t_gr (Q := fun _ _ _ => False) ?_ ?_
    · refine x_cln rfl rfl rfl rfl Try.func21 (by kernel_rfl) rfl (fun w1 hw1 => c21 b0 b1 b2 b3 w1 hb.2.2.2) ?_
      intro v28 wa28 wb28 hm28 hl28 hr28
      obtain ⟨u28, sb28, rfl, hrd28, hl28⟩ := hr28
      obtain ⟨A28, cp28, hu28, _⟩ := id hrd28
      subst hu28
      refine x_end ?_
      refine t_gr (Q := fun _ _ _ => False) ?_ ?_
      · refine x_cln rfl rfl rfl rfl Try.func21 (by kernel_rfl) rfl (fun w1 hw1 => c21 c0 c1 c2 c3 w1 hc.2.2.2) ?_
        intro v31 wa31 wb31 hm31 hl31 hr31
        obtain ⟨u31, sb31, rfl, hrd31, hl31⟩ := hr31
        obtain ⟨A31, cp31, hu31, _⟩ := id hrd31
        subst hu31
        refine x_end ?_
        refine t_gr (Q := fun _ _ _ => False) ?_ ?_
        · refine x_cln rfl rfl rfl rfl Try.func21 (by kernel_rfl) rfl (fun w1 hw1 => c21 a0 c1 ⟨#[]⟩ b3 w1 hb.2.2.2) ?_
          intro v40 wa40 wb40 hm40 hl40 hr40
          obtain ⟨u40, sb40, rfl, hrd40, hl40⟩ := hr40
          obtain ⟨A40, cp40, hu40, _⟩ := id hrd40
          subst hu40
          refine x_end ?_
          refine t_gr (Q := fun _ _ _ => False) ?_ ?_
          · refine x_buildSliceL (cs := [Value.string b0, .string b1, .string b2, .slice A28 sb28.length cp28] ++ ([Value.string c0, .string c1, .string c2, .slice A31 sb31.length cp31] ++ [Value.string a0, .string c1, .string ⟨#[]⟩, .slice A40 sb40.length cp40])) rfl rfl rfl Try.underlying30 sz46 zr46 rfl rfl rfl ?_
            intro p41
            refine x_end ?_
            refine t_flt (Q := fun _ _ _ => False) ?_
            refine x_val rfl rfl rfl (v_buildL (places := [(0, 1), (1, 1), (2, 1)]) Try.underlying32 zr32 (by kernel_rfl) rfl rfl) ?_
            refine x_end ?_
            refine t_gr (Q := fun _ _ _ => False) ?_ t_nil
            refine x_alloc rfl rfl rfl zr32 ?_
            intro p10
            refine x_end ?_
            refine t_done ?_
            first | refine x_store0 [] rfl rfl rfl rfl sz32 rfl rfl ?_ | refine x_store0 [(p41, _)] rfl rfl rfl rfl sz32 rfl rfl ?_
            refine x_end ?_
            refine s_fix2 (own' := [(p10, Obj.cells [Value.int .u8 0, .int .u8 0, .slice (some ⟨p41, 0, none⟩) 3 3].toArray 32), (p25, Obj.cells (Rl.cells (⟨a0, true, true, a1, a2, a3, a4⟩ : Rl)).toArray 27)]) (by first | exact ((List.nil_sublist _).cons_cons _ |>.cons_cons _ |>.cons _) | exact ((List.nil_sublist _).cons_cons _ |>.cons _ |>.cons_cons _)) (fun w0 hm0 hsub => ?_)
            have hne : p41 ≠ p10 ∧ p41 ≠ p25 := by have h := hm0.own_nd; simp at h; omega
            have hgs : sliceRd tyFl (newD w [(p10, Obj.cells [Value.int .u8 0, .int .u8 0, .slice (some ⟨p41, 0, none⟩) 3 3].toArray 32), (p25, Obj.cells (Rl.cells (⟨a0, true, true, a1, a2, a3, a4⟩ : Rl)).toArray 27)]) w0 (.slice (some ⟨p41, 0, none⟩) 3 3) [(⟨b0, b1, b2, sb28⟩ : Fl), ⟨c0, c1, c2, sb31⟩, ⟨a0, c1, ⟨#[]⟩, sb40⟩] := lits_rd [[Value.string b0, .string b1, .string b2, .slice A28 sb28.length cp28], [Value.string c0, .string c1, .string c2, .slice A31 sb31.length cp31], [Value.string a0, .string c1, .string ⟨#[]⟩, .slice A40 sb40.length cp40]] (hm0.own_at (p41, _) (by repeat (first | exact List.Mem.head _ | apply List.Mem.tail))) (by simp) rfl (by show (3 : Nat) ≤ 9223372036854775807; decide) ⟨hm0.newer (p := (p41, _)) (by simp) (by repeat (first | exact List.Mem.head _ | apply List.Mem.tail)), fun q hq => by simp only [List.mem_cons, List.not_mem_nil, or_false] at hq; rcases hq with rfl | rfl <;> simp only <;> omega⟩ ⟨⟨_, rfl, ⟨hb.1, hb.2.1, hb.2.2.1⟩, (hrd28.keep (Kept.made (hm0.less hsub (fun _ h => h)) (by repeat (first | exact List.Mem.head _ | apply List.Mem.tail)) hm28 (hm28.base (by simp)).size))⟩, ⟨_, rfl, ⟨hc.1, hc.2.1, hc.2.2.1⟩, (hrd31.keep (Kept.made (hm0.less hsub (fun _ h => h)) (by repeat (first | exact List.Mem.head _ | apply List.Mem.tail)) hm31 (hm31.base (by simp)).size))⟩, ⟨_, rfl, ⟨ha.1, hc.2.1, (by decide : (0 : Nat) ≤ 9223372036854775807)⟩, (hrd40.keep (Kept.made (hm0.less hsub (fun _ h => h)) (by repeat (first | exact List.Mem.head _ | apply List.Mem.tail)) hm40 (hm40.base (by simp)).size))⟩, trivial⟩
            exact c_norm (p10, w0, .slice (some ⟨p41, 0, none⟩) 3 3, [(⟨b0, b1, b2, sb28⟩ : Fl), ⟨c0, c1, c2, sb31⟩, ⟨a0, c1, ⟨#[]⟩, sb40⟩]) ⟨hgs, by simp⟩ (by repeat (first | exact Sub.nil | refine Sub.cons rfl ?_)) (fun _ h => h.less (List.Sublist.refl _) (by intro s hs; rcases List.mem_cons.1 hs with rfl | hs; (· exact .head _); rw [List.mem_singleton.1 hs]; simp))
          refine t_gr (Q := fun _ _ _ => False) ?_ t_nil
          refine x_alloc rfl rfl rfl zr32 ?_
          intro p10
          refine x_end ?_
          refine t_gr (Q := fun _ _ _ => False) ?_ t_nil
          refine x_buildSliceL (cs := [Value.string b0, .string b1, .string b2, .slice A28 sb28.length cp28] ++ ([Value.string c0, .string c1, .string c2, .slice A31 sb31.length cp31] ++ [Value.string a0, .string c1, .string ⟨#[]⟩, .slice A40 sb40.length cp40])) rfl rfl rfl Try.underlying30 sz46 zr46 rfl rfl rfl ?_
          intro p41
          refine x_end ?_
          refine t_flt (Q := fun _ _ _ => False) ?_
          refine x_val rfl rfl rfl (v_buildL (places := [(0, 1), (1, 1), (2, 1)]) Try.underlying32 zr32 (by kernel_rfl) rfl rfl) ?_
          refine x_end ?_
          refine t_done ?_
          first | refine x_store0 [] rfl rfl rfl rfl sz32 rfl rfl ?_ | refine x_store0 [(p41, _)] rfl rfl rfl rfl sz32 rfl rfl ?_
          refine x_end ?_
          refine s_fix2 (own' := [(p10, Obj.cells [Value.int .u8 0, .int .u8 0, .slice (some ⟨p41, 0, none⟩) 3 3].toArray 32), (p25, Obj.cells (Rl.cells (⟨a0, true, true, a1, a2, a3, a4⟩ : Rl)).toArray 27)]) (by first | exact ((List.nil_sublist _).cons_cons _ |>.cons_cons _ |>.cons _) | exact ((List.nil_sublist _).cons_cons _ |>.cons _ |>.cons_cons _)) (fun w0 hm0 hsub => ?_)
          have hne : p41 ≠ p10 ∧ p41 ≠ p25 := by have h := hm0.own_nd; simp at h; omega
          have hgs : sliceRd tyFl (newD w [(p10, Obj.cells [Value.int .u8 0, .int .u8 0, .slice (some ⟨p41, 0, none⟩) 3 3].toArray 32), (p25, Obj.cells (Rl.cells (⟨a0, true, true, a1, a2, a3, a4⟩ : Rl)).toArray 27)]) w0 (.slice (some ⟨p41, 0, none⟩) 3 3) [(⟨b0, b1, b2, sb28⟩ : Fl), ⟨c0, c1, c2, sb31⟩, ⟨a0, c1, ⟨#[]⟩, sb40⟩] := lits_rd [[Value.string b0, .string b1, .string b2, .slice A28 sb28.length cp28], [Value.string c0, .string c1, .string c2, .slice A31 sb31.length cp31], [Value.string a0, .string c1, .string ⟨#[]⟩, .slice A40 sb40.length cp40]] (hm0.own_at (p41, _) (by repeat (first | exact List.Mem.head _ | apply List.Mem.tail))) (by simp) rfl (by show (3 : Nat) ≤ 9223372036854775807; decide) ⟨hm0.newer (p := (p41, _)) (by simp) (by repeat (first | exact List.Mem.head _ | apply List.Mem.tail)), fun q hq => by simp only [List.mem_cons, List.not_mem_nil, or_false] at hq; rcases hq with rfl | rfl <;> simp only <;> omega⟩ ⟨⟨_, rfl, ⟨hb.1, hb.2.1, hb.2.2.1⟩, (hrd28.keep (Kept.made (hm0.less hsub (fun _ h => h)) (by repeat (first | exact List.Mem.head _ | apply List.Mem.tail)) hm28 (hm28.base (by simp)).size))⟩, ⟨_, rfl, ⟨hc.1, hc.2.1, hc.2.2.1⟩, (hrd31.keep (Kept.made (hm0.less hsub (fun _ h => h)) (by repeat (first | exact List.Mem.head _ | apply List.Mem.tail)) hm31 (hm31.base (by simp)).size))⟩, ⟨_, rfl, ⟨ha.1, hc.2.1, (by decide : (0 : Nat) ≤ 9223372036854775807)⟩, (hrd40.keep (Kept.made (hm0.less hsub (fun _ h => h)) (by repeat (first | exact List.Mem.head _ | apply List.Mem.tail)) hm40 (hm40.base (by simp)).size))⟩, trivial⟩
          exact c_norm (p10, w0, .slice (some ⟨p41, 0, none⟩) 3 3, [(⟨b0, b1, b2, sb28⟩ : Fl), ⟨c0, c1, c2, sb31⟩, ⟨a0, c1, ⟨#[]⟩, sb40⟩]) ⟨hgs, by simp⟩ (by repeat (first | exact Sub.nil | refine Sub.cons rfl ?_)) (fun _ h => h.less (List.Sublist.refl _) (by intro s hs; rcases List.mem_cons.1 hs with rfl | hs; (· exact .head _); rw [List.mem_singleton.1 hs]; simp))
        refine t_gr (Q := fun _ _ _ => False) ?_ t_nil
        refine x_alloc rfl rfl rfl zr32 ?_
        intro p10
        refine x_end ?_
        refine t_gr (Q := fun _ _ _ => False) ?_ t_nil
        refine x_cln rfl rfl rfl rfl Try.func21 (by kernel_rfl) rfl (fun w1 hw1 => c21 a0 c1 ⟨#[]⟩ b3 w1 hb.2.2.2) ?_
        intro v40 wa40 wb40 hm40 hl40 hr40
        obtain ⟨u40, sb40, rfl, hrd40, hl40⟩ := hr40
        obtain ⟨A40, cp40, hu40, _⟩ := id hrd40
        subst hu40
        refine x_end ?_
        refine t_gr (Q := fun _ _ _ => False) ?_ t_nil
        refine x_buildSliceL (cs := [Value.string b0, .string b1, .string b2, .slice A28 sb28.length cp28] ++ ([Value.string c0, .string c1, .string c2, .slice A31 sb31.length cp31] ++ [Value.string a0, .string c1, .string ⟨#[]⟩, .slice A40 sb40.length cp40])) rfl rfl rfl Try.underlying30 sz46 zr46 rfl rfl rfl ?_
        intro p41
        refine x_end ?_
        refine t_flt (Q := fun _ _ _ => False) ?_
        refine x_val rfl rfl rfl (v_buildL (places := [(0, 1), (1, 1), (2, 1)]) Try.underlying32 zr32 (by kernel_rfl) rfl rfl) ?_
        refine x_end ?_
        refine t_done ?_
        first | refine x_store0 [] rfl rfl rfl rfl sz32 rfl rfl ?_ | refine x_store0 [(p41, _)] rfl rfl rfl rfl sz32 rfl rfl ?_
        refine x_end ?_
        refine s_fix2 (own' := [(p10, Obj.cells [Value.int .u8 0, .int .u8 0, .slice (some ⟨p41, 0, none⟩) 3 3].toArray 32), (p25, Obj.cells (Rl.cells (⟨a0, true, true, a1, a2, a3, a4⟩ : Rl)).toArray 27)]) (by first | exact ((List.nil_sublist _).cons_cons _ |>.cons_cons _ |>.cons _) | exact ((List.nil_sublist _).cons_cons _ |>.cons _ |>.cons_cons _)) (fun w0 hm0 hsub => ?_)
        have hne : p41 ≠ p10 ∧ p41 ≠ p25 := by have h := hm0.own_nd; simp at h; omega
        have hgs : sliceRd tyFl (newD w [(p10, Obj.cells [Value.int .u8 0, .int .u8 0, .slice (some ⟨p41, 0, none⟩) 3 3].toArray 32), (p25, Obj.cells (Rl.cells (⟨a0, true, true, a1, a2, a3, a4⟩ : Rl)).toArray 27)]) w0 (.slice (some ⟨p41, 0, none⟩) 3 3) [(⟨b0, b1, b2, sb28⟩ : Fl), ⟨c0, c1, c2, sb31⟩, ⟨a0, c1, ⟨#[]⟩, sb40⟩] := lits_rd [[Value.string b0, .string b1, .string b2, .slice A28 sb28.length cp28], [Value.string c0, .string c1, .string c2, .slice A31 sb31.length cp31], [Value.string a0, .string c1, .string ⟨#[]⟩, .slice A40 sb40.length cp40]] (hm0.own_at (p41, _) (by repeat (first | exact List.Mem.head _ | apply List.Mem.tail))) (by simp) rfl (by show (3 : Nat) ≤ 9223372036854775807; decide) ⟨hm0.newer (p := (p41, _)) (by simp) (by repeat (first | exact List.Mem.head _ | apply List.Mem.tail)), fun q hq => by simp only [List.mem_cons, List.not_mem_nil, or_false] at hq; rcases hq with rfl | rfl <;> simp only <;> omega⟩ ⟨⟨_, rfl, ⟨hb.1, hb.2.1, hb.2.2.1⟩, (hrd28.keep (Kept.made (hm0.less hsub (fun _ h => h)) (by repeat (first | exact List.Mem.head _ | apply List.Mem.tail)) hm28 (hm28.base (by simp)).size))⟩, ⟨_, rfl, ⟨hc.1, hc.2.1, hc.2.2.1⟩, (hrd31.keep (Kept.made (hm0.less hsub (fun _ h => h)) (by repeat (first | exact List.Mem.head _ | apply List.Mem.tail)) hm31 (hm31.base (by simp)).size))⟩, ⟨_, rfl, ⟨ha.1, hc.2.1, (by decide : (0 : Nat) ≤ 9223372036854775807)⟩, (hrd40.keep (Kept.made (hm0.less hsub (fun _ h => h)) (by repeat (first | exact List.Mem.head _ | apply List.Mem.tail)) hm40 (hm40.base (by simp)).size))⟩, trivial⟩
        exact c_norm (p10, w0, .slice (some ⟨p41, 0, none⟩) 3 3, [(⟨b0, b1, b2, sb28⟩ : Fl), ⟨c0, c1, c2, sb31⟩, ⟨a0, c1, ⟨#[]⟩, sb40⟩]) ⟨hgs, by simp⟩ (by repeat (first | exact Sub.nil | refine Sub.cons rfl ?_)) (fun _ h => h.less (List.Sublist.refl _) (by intro s hs; rcases List.mem_cons.1 hs with rfl | hs; (· exact .head _); rw [List.mem_singleton.1 hs]; simp))
      refine t_gr (Q := fun _ _ _ => False) ?_ t_nil
      refine x_alloc rfl rfl rfl zr32 ?_
      intro p10
      refine x_end ?_
      refine t_gr (Q := fun _ _ _ => False) ?_ t_nil
      refine x_cln rfl rfl rfl rfl Try.func21 (by kernel_rfl) rfl (fun w1 hw1 => c21 c0 c1 c2 c3 w1 hc.2.2.2) ?_
      intro v31 wa31 wb31 hm31 hl31 hr31
      obtain ⟨u31, sb31, rfl, hrd31, hl31⟩ := hr31
      obtain ⟨A31, cp31, hu31, _⟩ := id hrd31
      subst hu31
      refine x_end ?_
      refine t_gr (Q := fun _ _ _ => False) ?_ t_nil
      refine x_cln rfl rfl rfl rfl Try.func21 (by kernel_rfl) rfl (fun w1 hw1 => c21 a0 c1 ⟨#[]⟩ b3 w1 hb.2.2.2) ?_
      intro v40 wa40 wb40 hm40 hl40 hr40
      obtain ⟨u40, sb40, rfl, hrd40, hl40⟩ := hr40
      obtain ⟨A40, cp40, hu40, _⟩ := id hrd40
      subst hu40
      refine x_end ?_
      refine t_gr (Q := fun _ _ _ => False) ?_ t_nil
      refine x_buildSliceL (cs := [Value.string b0, .string b1, .string b2, .slice A28 sb28.length cp28] ++ ([Value.string c0, .string c1, .string c2, .slice A31 sb31.length cp31] ++ [Value.string a0, .string c1, .string ⟨#[]⟩, .slice A40 sb40.length cp40])) rfl rfl rfl Try.underlying30 sz46 zr46 rfl rfl rfl ?_
      intro p41
      refine x_end ?_
      refine t_flt (Q := fun _ _ _ => False) ?_
      refine x_val rfl rfl rfl (v_buildL (places := [(0, 1), (1, 1), (2, 1)]) Try.underlying32 zr32 (by kernel_rfl) rfl rfl) ?_
      refine x_end ?_
      refine t_done ?_
      first | refine x_store0 [] rfl rfl rfl rfl sz32 rfl rfl ?_ | refine x_store0 [(p41, _)] rfl rfl rfl rfl sz32 rfl rfl ?_
      refine x_end ?_
      refine s_fix2 (own' := [(p10, Obj.cells [Value.int .u8 0, .int .u8 0, .slice (some ⟨p41, 0, none⟩) 3 3].toArray 32), (p25, Obj.cells (Rl.cells (⟨a0, true, true, a1, a2, a3, a4⟩ : Rl)).toArray 27)]) (by first | exact ((List.nil_sublist _).cons_cons _ |>.cons_cons _ |>.cons _) | exact ((List.nil_sublist _).cons_cons _ |>.cons _ |>.cons_cons _)) (fun w0 hm0 hsub => ?_)
      have hne : p41 ≠ p10 ∧ p41 ≠ p25 := by have h := hm0.own_nd; simp at h; omega
      have hgs : sliceRd tyFl (newD w [(p10, Obj.cells [Value.int .u8 0, .int .u8 0, .slice (some ⟨p41, 0, none⟩) 3 3].toArray 32), (p25, Obj.cells (Rl.cells (⟨a0, true, true, a1, a2, a3, a4⟩ : Rl)).toArray 27)]) w0 (.slice (some ⟨p41, 0, none⟩) 3 3) [(⟨b0, b1, b2, sb28⟩ : Fl), ⟨c0, c1, c2, sb31⟩, ⟨a0, c1, ⟨#[]⟩, sb40⟩] := lits_rd [[Value.string b0, .string b1, .string b2, .slice A28 sb28.length cp28], [Value.string c0, .string c1, .string c2, .slice A31 sb31.length cp31], [Value.string a0, .string c1, .string ⟨#[]⟩, .slice A40 sb40.length cp40]] (hm0.own_at (p41, _) (by repeat (first | exact List.Mem.head _ | apply List.Mem.tail))) (by simp) rfl (by show (3 : Nat) ≤ 9223372036854775807; decide) ⟨hm0.newer (p := (p41, _)) (by simp) (by repeat (first | exact List.Mem.head _ | apply List.Mem.tail)), fun q hq => by simp only [List.mem_cons, List.not_mem_nil, or_false] at hq; rcases hq with rfl | rfl <;> simp only <;> omega⟩ ⟨⟨_, rfl, ⟨hb.1, hb.2.1, hb.2.2.1⟩, (hrd28.keep (Kept.made (hm0.less hsub (fun _ h => h)) (by repeat (first | exact List.Mem.head _ | apply List.Mem.tail)) hm28 (hm28.base (by simp)).size))⟩, ⟨_, rfl, ⟨hc.1, hc.2.1, hc.2.2.1⟩, (hrd31.keep (Kept.made (hm0.less hsub (fun _ h => h)) (by repeat (first | exact List.Mem.head _ | apply List.Mem.tail)) hm31 (hm31.base (by simp)).size))⟩, ⟨_, rfl, ⟨ha.1, hc.2.1, (by decide : (0 : Nat) ≤ 9223372036854775807)⟩, (hrd40.keep (Kept.made (hm0.less hsub (fun _ h => h)) (by repeat (first | exact List.Mem.head _ | apply List.Mem.tail)) hm40 (hm40.base (by simp)).size))⟩, trivial⟩
      exact c_norm (p10, w0, .slice (some ⟨p41, 0, none⟩) 3 3, [(⟨b0, b1, b2, sb28⟩ : Fl), ⟨c0, c1, c2, sb31⟩, ⟨a0, c1, ⟨#[]⟩, sb40⟩]) ⟨hgs, by simp⟩ (by repeat (first | exact Sub.nil | refine Sub.cons rfl ?_)) (fun _ h => h.less (List.Sublist.refl _) (by intro s hs; rcases List.mem_cons.1 hs with rfl | hs; (· exact .head _); rw [List.mem_singleton.1 hs]; simp))
    refine t_gr (Q := fun _ _ _ => False) ?_ t_nil
    refine x_alloc rfl rfl rfl zr32 ?_
    intro p10
    refine x_end ?_
    refine t_gr (Q := fun _ _ _ => False) ?_ t_nil
    refine x_cln rfl rfl rfl rfl Try.func21 (by kernel_rfl) rfl (fun w1 hw1 => c21 b0 b1 b2 b3 w1 hb.2.2.2) ?_
    intro v28 wa28 wb28 hm28 hl28 hr28
    obtain ⟨u28, sb28, rfl, hrd28, hl28⟩ := hr28
    obtain ⟨A28, cp28, hu28, _⟩ := id hrd28
    subst hu28
    refine x_end ?_
    refine t_gr (Q := fun _ _ _ => False) ?_ t_nil
    refine x_cln rfl rfl rfl rfl Try.func21 (by kernel_rfl) rfl (fun w1 hw1 => c21 c0 c1 c2 c3 w1 hc.2.2.2) ?_
    intro v31 wa31 wb31 hm31 hl31 hr31
    obtain ⟨u31, sb31, rfl, hrd31, hl31⟩ := hr31
    obtain ⟨A31, cp31, hu31, _⟩ := id hrd31
    subst hu31
    refine x_end ?_
    refine t_gr (Q := fun _ _ _ => False) ?_ t_nil
    refine x_cln rfl rfl rfl rfl Try.func21 (by kernel_rfl) rfl (fun w1 hw1 => c21 a0 c1 ⟨#[]⟩ b3 w1 hb.2.2.2) ?_
    intro v40 wa40 wb40 hm40 hl40 hr40
    obtain ⟨u40, sb40, rfl, hrd40, hl40⟩ := hr40
    obtain ⟨A40, cp40, hu40, _⟩ := id hrd40
    subst hu40
    refine x_end ?_
    refine t_gr (Q := fun _ _ _ => False) ?_ t_nil
    refine x_buildSliceL (cs := [Value.string b0, .string b1, .string b2, .slice A28 sb28.length cp28] ++ ([Value.string c0, .string c1, .string c2, .slice A31 sb31.length cp31] ++ [Value.string a0, .string c1, .string ⟨#[]⟩, .slice A40 sb40.length cp40])) rfl rfl rfl Try.underlying30 sz46 zr46 rfl rfl rfl ?_
    intro p41
    refine x_end ?_
    refine t_flt (Q := fun _ _ _ => False) ?_
    refine x_val rfl rfl rfl (v_buildL (places := [(0, 1), (1, 1), (2, 1)]) Try.underlying32 zr32 (by kernel_rfl) rfl rfl) ?_
    refine x_end ?_
    refine t_done ?_
    first | refine x_store0 [] rfl rfl rfl rfl sz32 rfl rfl ?_ | refine x_store0 [(p41, _)] rfl rfl rfl rfl sz32 rfl rfl ?_
    refine x_end ?_
    refine s_fix2 (own' := [(p10, Obj.cells [Value.int .u8 0, .int .u8 0, .slice (some ⟨p41, 0, none⟩) 3 3].toArray 32), (p25, Obj.cells (Rl.cells (⟨a0, true, true, a1, a2, a3, a4⟩ : Rl)).toArray 27)]) (by first | exact ((List.nil_sublist _).cons_cons _ |>.cons_cons _ |>.cons _) | exact ((List.nil_sublist _).cons_cons _ |>.cons _ |>.cons_cons _)) (fun w0 hm0 hsub => ?_)
    have hne : p41 ≠ p10 ∧ p41 ≠ p25 := by have h := hm0.own_nd; simp at h; omega
    have hgs : sliceRd tyFl (newD w [(p10, Obj.cells [Value.int .u8 0, .int .u8 0, .slice (some ⟨p41, 0, none⟩) 3 3].toArray 32), (p25, Obj.cells (Rl.cells (⟨a0, true, true, a1, a2, a3, a4⟩ : Rl)).toArray 27)]) w0 (.slice (some ⟨p41, 0, none⟩) 3 3) [(⟨b0, b1, b2, sb28⟩ : Fl), ⟨c0, c1, c2, sb31⟩, ⟨a0, c1, ⟨#[]⟩, sb40⟩] := lits_rd [[Value.string b0, .string b1, .string b2, .slice A28 sb28.length cp28], [Value.string c0, .string c1, .string c2, .slice A31 sb31.length cp31], [Value.string a0, .string c1, .string ⟨#[]⟩, .slice A40 sb40.length cp40]] (hm0.own_at (p41, _) (by repeat (first | exact List.Mem.head _ | apply List.Mem.tail))) (by simp) rfl (by show (3 : Nat) ≤ 9223372036854775807; decide) ⟨hm0.newer (p := (p41, _)) (by simp) (by repeat (first | exact List.Mem.head _ | apply List.Mem.tail)), fun q hq => by simp only [List.mem_cons, List.not_mem_nil, or_false] at hq; rcases hq with rfl | rfl <;> simp only <;> omega⟩ ⟨⟨_, rfl, ⟨hb.1, hb.2.1, hb.2.2.1⟩, (hrd28.keep (Kept.made (hm0.less hsub (fun _ h => h)) (by repeat (first | exact List.Mem.head _ | apply List.Mem.tail)) hm28 (hm28.base (by simp)).size))⟩, ⟨_, rfl, ⟨hc.1, hc.2.1, hc.2.2.1⟩, (hrd31.keep (Kept.made (hm0.less hsub (fun _ h => h)) (by repeat (first | exact List.Mem.head _ | apply List.Mem.tail)) hm31 (hm31.base (by simp)).size))⟩, ⟨_, rfl, ⟨ha.1, hc.2.1, (by decide : (0 : Nat) ≤ 9223372036854775807)⟩, (hrd40.keep (Kept.made (hm0.less hsub (fun _ h => h)) (by repeat (first | exact List.Mem.head _ | apply List.Mem.tail)) hm40 (hm40.base (by simp)).size))⟩, trivial⟩
    exact c_norm (p10, w0, .slice (some ⟨p41, 0, none⟩) 3 3, [(⟨b0, b1, b2, sb28⟩ : Fl), ⟨c0, c1, c2, sb31⟩, ⟨a0, c1, ⟨#[]⟩, sb40⟩]) ⟨hgs, by simp⟩ (by repeat (first | exact Sub.nil | refine Sub.cons rfl ?_)) (fun _ h => h.less (List.Sublist.refl _) (by intro s hs; rcases List.mem_cons.1 hs with rfl | hs; (· exact .head _); rw [List.mem_singleton.1 hs]; simp))
  · rintro ⟨p10, ws, u, gs⟩ ⟨hg, hgl⟩
    refine w_state ([(7, .bool true), (8, .slice (some ⟨p25, 0, none⟩) 1 1), (10, .pointer (some ⟨p10, 0, none⟩))]) ([(p10, Obj.cells [Value.int .u8 0, .int .u8 0, u].toArray 32), (p25, Obj.cells (Rl.cells (⟨a0, true, true, a1, a2, a3, a4⟩ : Rl)).toArray 27)]) ([(ws, notOwn [(p10, Obj.cells [Value.int .u8 0, .int .u8 0, u].toArray 32), (p25, Obj.cells (Rl.cells (⟨a0, true, true, a1, a2, a3, a4⟩ : Rl)).toArray 27)]), (w, fun _ => True)]) ?_
    dsimp only at hg hgl
    refine w_seq ?_
    refine rg_text ?_
    refine x_own (τ := Nat) (fun b => .slice (some ⟨b, 0, none⟩) 24 24) (fun _ => True) (fun b => (b, Obj.cells (std.flatMap Rl.cells).toArray 27) :: [(p10, Obj.cells [Value.int .u8 0, .int .u8 0, u].toArray 32), (p25, Obj.cells (Rl.cells (⟨a0, true, true, a1, a2, a3, a4⟩ : Rl)).toArray 27)]) rfl rfl rfl Try.func12 (by kernel_rfl) rfl (fun w1 hw1 => c12o w1 hw1) ?_
    intro bS _
    refine x_val rfl rfl rfl (v_move rfl) ?_
    refine x_append (e := 27) [] (l2 := [(p10, Obj.cells [Value.int .u8 0, .int .u8 0, u].toArray 32), (p25, Obj.cells (Rl.cells (⟨a0, true, true, a1, a2, a3, a4⟩ : Rl)).toArray 27)]) (some (bS, std.flatMap Rl.cells, 24)) (len := 24) (xs := std.flatMap Rl.cells) rfl rfl rfl rfl rfl (rowOK_lit (by kernel_rfl) (by decide)) Try.underlying23 ap27 rfl rfl (m := 1) (news := Rl.cells (⟨a0, true, true, a1, a2, a3, a4⟩ : Rl)) (fun i hi => at_ownL (vs := Rl.cells (⟨a0, true, true, a1, a2, a3, a4⟩ : Rl)) (.tail _ (.tail _ (.head _))) (by rw [Nat.zero_add]; exact List.getElem?_eq_getElem hi)) rfl (by decide) (by decide) ?_
    intro RM hRM
    refine x_val rfl rfl rfl (v_assign rfl) ?_
    refine x_end ?_
    refine t_norm ?_
    refine w_seq ?_
    refine rg_draw 20 [(true, 0), (true, 1), (true, 2), (true, 3), (true, 5), (true, 6), (false, 4), (false, 7), (true, 8), (true, 9), (true, 10), (true, 11), (true, 12), (true, 14), (true, 15), (false, 13), (false, 16), (true, 17), (true, 18), (true, 19)] (by kernel_rfl) (by kernel_rfl) ?_
    refine x_val rfl rfl rfl (v_move rfl) ?_
    refine x_val rfl rfl rfl (v_move rfl) ?_
    refine x_if [] rfl rfl rfl rfl rfl (fun hg => by obtain ⟨hg0, _⟩ := hg; (try simp only [List.cons_append, List.nil_append, gvl_nil, gvl_t, gvl_f]); exact v_move rfl) ?_
    refine x_if [] rfl rfl rfl rfl rfl (fun hg => by obtain ⟨hg0, _⟩ := hg; (try simp only [List.cons_append, List.nil_append, gvl_nil, gvl_t, gvl_f]); exact v_load_blk (e := 32) (fz := (0, 0)) (cs := [Value.int .u8 0, .int .u8 0, u].toArray) Try.underlying32 rfl rfl (List.mem_append_right _ (.head _)) (by exact sz32)) ?_
    refine x_if [] rfl rfl rfl rfl rfl (fun hg => by obtain ⟨hg0, _⟩ := hg; (try simp only [List.cons_append, List.nil_append, gvl_nil, gvl_t, gvl_f]); exact v_move rfl) ?_
    refine x_if [] rfl rfl rfl rfl rfl (fun hg => by obtain ⟨hg0, _⟩ := hg; (try simp only [List.cons_append, List.nil_append, gvl_nil, gvl_t, gvl_f]); exact v_load_blk (e := 32) (fz := (0, 0)) (cs := [Value.int .u8 0, .int .u8 0, u].toArray) Try.underlying32 rfl rfl (List.mem_append_right _ (.head _)) (by exact sz32)) ?_
    refine x_call_g rfl rfl rfl rfl rfl Try.func18 (by kernel_rfl) rfl (fun w1 hw1 => c18w (rs := [(⟨a0, true, true, a1, a2, a3, a4⟩ : Rl)]) (fs := gs) w1 (lits_rd (D := fun _ => True) [Rl.cells (⟨a0, true, true, a1, a2, a3, a4⟩ : Rl)] (hw1.own_at (p25, _) (List.mem_append_right _ (.tail _ (.head _)))) rfl rfl (by show (1 : Nat) ≤ 9223372036854775807; decide) trivial ⟨⟨rfl, hr0⟩, trivial⟩) (hg.keep (Kept.new hw1 (by repeat (first | exact List.Mem.head _ | apply List.Mem.tail)))) (by have : std.length = 24 := rfl; simp; omega)) ?_
    intro v50 wa50 wb50 hm50 hl50 hr50
    obtain ⟨hrd50, r50, rfl⟩ := hr50
    refine x_call_g rfl rfl rfl rfl rfl Try.func16 (by kernel_rfl) rfl (fun w1 hw1 => c16w (rs := [(⟨a0, true, true, a1, a2, a3, a4⟩ : Rl)]) (fs := gs) w1 (lits_rd (D := fun _ => True) [Rl.cells (⟨a0, true, true, a1, a2, a3, a4⟩ : Rl)] (hw1.own_at (p25, _) (List.mem_append_right _ (.tail _ (.head _)))) rfl rfl (by show (1 : Nat) ≤ 9223372036854775807; decide) trivial ⟨⟨rfl, hr0⟩, trivial⟩) (hg.keep (Kept.new hw1 (by repeat (first | exact List.Mem.head _ | apply List.Mem.tail)))) (by have : std.length = 24 := rfl; simp; omega)) ?_
    intro v53 wa53 wb53 hm53 hl53 hr53
    obtain ⟨hrd53, r53, rfl⟩ := hr53
    refine x_call_ifb [] rfl rfl rfl rfl rfl Try.func17 (by kernel_rfl) (fun hg => by obtain ⟨hg0, _⟩ := hg; (try simp only [List.cons_append, List.nil_append, gvl_nil, gvl_t, gvl_f]); refine ⟨_, rfl, ?_⟩; exact fun w1 hw1 => c17 w1 (keep_new hrd50 hw1 (by repeat (first | exact List.Mem.head _ | apply List.Mem.tail)) hm50) (keep_new hrd53 hw1 (by repeat (first | exact List.Mem.head _ | apply List.Mem.tail)) hm53)) ?_
    intro b54 hb54
    obtain rfl : b54 = true := by rw [hb54]; simp
    refine x_bool rfl rfl rfl (v_and rfl rfl) ?_
    intro b55 hb55
    obtain rfl : b55 = true := by rw [hb55]; rfl
    refine x_val rfl rfl rfl (v_move rfl) ?_
    refine x_if [] rfl rfl rfl rfl rfl (fun hg => by obtain ⟨hg0, _⟩ := hg; (try simp only [List.cons_append, List.nil_append, gvl_nil, gvl_t, gvl_f]); exact v_move rfl) ?_
    refine x_if [] rfl rfl rfl rfl rfl (fun hg => by obtain ⟨hg0, _⟩ := hg; (try simp only [List.cons_append, List.nil_append, gvl_nil, gvl_t, gvl_f]); exact v_load_blk (e := 32) (fz := (0, 0)) (cs := [Value.int .u8 0, .int .u8 0, u].toArray) Try.underlying32 rfl rfl (List.mem_append_right _ (.head _)) (by exact sz32)) ?_
    refine x_if [] rfl rfl rfl rfl rfl (fun hg => by obtain ⟨hg0, _⟩ := hg; (try simp only [List.cons_append, List.nil_append, gvl_nil, gvl_t, gvl_f]); exact v_move rfl) ?_
    refine x_if [] rfl rfl rfl rfl rfl (fun hg => by obtain ⟨hg0, _⟩ := hg; (try simp only [List.cons_append, List.nil_append, gvl_nil, gvl_t, gvl_f]); exact v_load_blk (e := 32) (fz := (0, 0)) (cs := [Value.int .u8 0, .int .u8 0, u].toArray) Try.underlying32 rfl rfl (List.mem_append_right _ (.head _)) (by exact sz32)) ?_
    refine x_call_g rfl rfl rfl rfl rfl Try.func18 (by kernel_rfl) rfl (fun w1 hw1 => c18w (rs := (std ++ [(⟨a0, true, true, a1, a2, a3, a4⟩ : Rl)])) (fs := gs) w1 (own_row_rd (T := tyRl) (f := Rl.cells) (ps := std ++ [(⟨a0, true, true, a1, a2, a3, a4⟩ : Rl)]) hw1 (fun p hp => List.mem_append_left _ (List.mem_append_right _ hp)) (by rw [List.flatMap_append]; show rowOK 7 _ _ _; simpa using hRM) (by kernel_rfl) (fun _ => rfl) (fun x hx => ⟨rfl, by rcases List.mem_append.1 hx with h | h; (· exact std_ok x h); rw [List.mem_singleton.1 h]; exact hr0⟩)) (hg.keep (Kept.new hw1 (by repeat (first | exact List.Mem.head _ | apply List.Mem.tail)))) (by have : std.length = 24 := rfl; simp; omega)) ?_
    intro v59 wa59 wb59 hm59 hl59 hr59
    obtain ⟨hrd59, r59, rfl⟩ := hr59
    refine x_call_g rfl rfl rfl rfl rfl Try.func16 (by kernel_rfl) rfl (fun w1 hw1 => c16w (rs := (std ++ [(⟨a0, true, true, a1, a2, a3, a4⟩ : Rl)])) (fs := gs) w1 (own_row_rd (T := tyRl) (f := Rl.cells) (ps := std ++ [(⟨a0, true, true, a1, a2, a3, a4⟩ : Rl)]) hw1 (fun p hp => List.mem_append_left _ (List.mem_append_right _ hp)) (by rw [List.flatMap_append]; show rowOK 7 _ _ _; simpa using hRM) (by kernel_rfl) (fun _ => rfl) (fun x hx => ⟨rfl, by rcases List.mem_append.1 hx with h | h; (· exact std_ok x h); rw [List.mem_singleton.1 h]; exact hr0⟩)) (hg.keep (Kept.new hw1 (by repeat (first | exact List.Mem.head _ | apply List.Mem.tail)))) (by have : std.length = 24 := rfl; simp; omega)) ?_
    intro v62 wa62 wb62 hm62 hl62 hr62
    obtain ⟨hrd62, r62, rfl⟩ := hr62
    refine x_call_ifb [] rfl rfl rfl rfl rfl Try.func17 (by kernel_rfl) (fun hg => by obtain ⟨hg0, _⟩ := hg; (try simp only [List.cons_append, List.nil_append, gvl_nil, gvl_t, gvl_f]); refine ⟨_, rfl, ?_⟩; exact fun w1 hw1 => c17 w1 (keep_new hrd59 hw1 (by repeat (first | exact List.Mem.head _ | apply List.Mem.tail)) hm59) (keep_new hrd62 hw1 (by repeat (first | exact List.Mem.head _ | apply List.Mem.tail)) hm62)) ?_
    intro b63 hb63
    obtain rfl : b63 = true := by rw [hb63]; simp
    refine x_bool rfl rfl rfl (v_and rfl rfl) ?_
    intro b64 hb64
    obtain rfl : b64 = true := by rw [hb64]; rfl
    refine x_val rfl rfl rfl (v_assign rfl) ?_
    refine x_end ?_
    refine t_norm ?_
    refine w_ret ?_
    refine ret1 rfl rfl (fun w' hm => ⟨?_, hm.base (by simp)⟩)
    rfl

end Go.Proofs.Ytmihkbciilloaaa
