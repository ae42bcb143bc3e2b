import Derived.Test.YtmihkbciilloaaaWj
namespace Go.Proofs.Ytmihkbciilloaaa
open Go.RowKit Go.PK
set_option linter.unusedVariables false
set_option linter.unusedSimpArgs false

theorem ap48 : (Try.prog.info? 48).map (fun j => (j.zero, j.size, j.bytes)) = some (some (.agg #[.int .u8 0, .string ⟨#[]⟩]), 2, 24) := by kernel_rfl
theorem std_ok : ∀ x ∈ std, x.ok := by
  have h : std.all (fun x => decide (x.tag.size ≤ 100) && decide (x.i0.size ≤ 100) && decide (x.i1.size ≤ 100) && decide (x.codes.size ≤ 100) && decide (x.single.size ≤ 100)) = true := by kernel_rfl
  intro x hx
  have h2 := List.all_eq_true.1 h x hx
  simp only [Bool.and_eq_true, decide_eq_true_eq] at h2
  obtain ⟨⟨⟨⟨a1, a2⟩, a3⟩, a4⟩, a5⟩ := h2
  exact ⟨by unfold okS; omega, by unfold okS; omega, by unfold okS; omega, by unfold okS; omega, by unfold okS; omega⟩
theorem std_rd {w : World} {b : Nat} (h : w.heap[b]? = some (.cells (std.flatMap Rl.cells).toArray 27)) : sliceRd tyRl (fun _ => True) w (.slice (some ⟨b, 0, none⟩) 24 24) std :=
  lit_rd (f := Rl.cells) (T := tyRl) (fun _ => rfl) h (by kernel_rfl) (by decide) (by decide) trivial (fun x hx => ⟨rfl, std_ok x hx⟩)
def cId : List Value := [.string ⟨#[48, 48, 49]⟩, .string ⟨#[]⟩, .string ⟨#[55]⟩, .slice none 0 0]
def cDt (t i : ByteArray) (b : Nat) : List Value := [.string t, .string i, .string ⟨#[]⟩, .slice (some ⟨b, 0, none⟩) 1 1]
def cSb (c : UInt8) (x : ByteArray) : List Value := [.int .u8 c.toNat, .string x]
theorem rd_id {w : World} : tyFl.rd (fun _ => True) w cId fId := ⟨_, rfl, ⟨by unfold okS; decide, by unfold okS; decide, by unfold okS; decide⟩, none, 0, rfl, by decide, by decide, fun h => by simp [fId] at h⟩
theorem rd_data {w : World} {t i x : ByteArray} {c : UInt8} {b : Nat} (h : w.heap[b]? = some (.cells (cSb c x).toArray 48)) (h1 : okS t) (h2 : okS i) (h3 : okS x) : tyFl.rd (fun _ => True) w (cDt t i b) ⟨t, i, ⟨#[]⟩, [⟨c, x⟩]⟩ :=
  ⟨_, rfl, ⟨h1, h2, (by decide : (0 : Nat) ≤ 9223372036854775807)⟩, lits_rd [cSb c x] h (by simp) rfl (by show 1 ≤ 9223372036854775807; decide) trivial ⟨⟨rfl, h3⟩, trivial⟩⟩

theorem dbl_ok : ∀ x ∈ fDouble.subs, okS x.text := by
  intro x hx
  simp only [fDouble, List.mem_cons, List.not_mem_nil, or_false] at hx
  rcases hx with rfl | rfl <;> (unfold okS; decide)
set_option maxRecDepth 100000 in
theorem c11 (w : World) :
    Calls Try.prog 11 #[] w fun e w' => e = .returned (.bool (true)) ∧ Later w w' := by
  refine enter (vs := []) Try.func11 rfl Try.ntmps11 rfl ?_
  refine w_seq ?_
  refine rg_text ?_
  refine x_val rfl rfl rfl (v_assign rfl) ?_
  refine x_end ?_
  refine t_norm ?_
  refine w_seq ?_
  refine rg_text ?_
  refine x_call rfl rfl rfl Try.func12 (by kernel_rfl) rfl (fun w1 hw1 => c12 w1) ?_
  intro v10 wa10 wb10 hm10 hl10 hr10
  obtain ⟨bS, rfl, hbS, hcS⟩ := hr10
  have hS : ∀ w1 own1 ro1, Mem w1 own1 ro1 → (wb10, notOwn []) ∈ ro1 → sliceRd tyRl (fun _ => True) w1 (.slice (some ⟨bS, 0, none⟩) 24 24) std := fun w1 own1 ro1 h hs => std_rd (ro_heap h hs (fun p hp => by cases hp) hcS)
  refine x_val rfl rfl rfl (v_assign rfl) ?_
  refine x_end ?_
  refine t_norm ?_
  refine w_seq ?_
  refine rg_text ?_
  refine x_val rfl rfl rfl (v_buildL (places := [(0, 1), (1, 1), (2, 1), (3, 1)]) Try.underlying46 zr46 (by kernel_rfl) rfl rfl) ?_
  refine x_alloc rfl rfl rfl zr46 ?_
  intro p2
  refine x_store0 [] rfl rfl rfl rfl sz46 rfl rfl ?_
  refine x_end ?_
  refine t_norm ?_
  refine w_seq ?_
  refine rg_text ?_
  refine x_own (τ := Nat) (fun b => .agg #[.string ⟨#[50, 52, 53]⟩, .string ⟨#[49, 48]⟩, .string ⟨#[]⟩, .slice (some ⟨b, 0, none⟩) 1 1]) (fun _ => True) (fun b => (b, Obj.cells (cSb 97 ⟨#[69, 109, 109, 97]⟩).toArray 48) :: [(p2, Obj.cells cId.toArray 46)]) rfl rfl rfl Try.func23 (by kernel_rfl) rfl (fun w1 hw1 => c23o ⟨#[50, 52, 53]⟩ ⟨#[49, 48]⟩ ⟨#[69, 109, 109, 97]⟩ 97 w1 hw1) ?_
  intro b12 _
  refine x_alloc rfl rfl rfl zr46 ?_
  intro p3
  refine x_store0 [] rfl rfl rfl rfl sz46 rfl rfl ?_
  refine x_end ?_
  refine t_norm ?_
  refine w_seq ?_
  refine rg_text ?_
  refine x_own (τ := Nat) (fun b => .agg #[.string ⟨#[50, 52, 53]⟩, .string ⟨#[49, 48]⟩, .string ⟨#[]⟩, .slice (some ⟨b, 0, none⟩) 1 1]) (fun _ => True) (fun b => (b, Obj.cells (cSb 97 ⟨#[120]⟩).toArray 48) :: [(p3, Obj.cells (cDt ⟨#[50, 52, 53]⟩ ⟨#[49, 48]⟩ b12).toArray 46), (b12, Obj.cells (cSb 97 ⟨#[69, 109, 109, 97]⟩).toArray 48), (p2, Obj.cells cId.toArray 46)]) rfl rfl rfl Try.func23 (by kernel_rfl) rfl (fun w1 hw1 => c23o ⟨#[50, 52, 53]⟩ ⟨#[49, 48]⟩ ⟨#[120]⟩ 97 w1 hw1) ?_
  intro b13 _
  refine x_alloc rfl rfl rfl zr46 ?_
  intro p4
  refine x_store0 [] rfl rfl rfl rfl sz46 rfl rfl ?_
  refine x_end ?_
  refine t_norm ?_
  refine w_seq ?_
  refine rg_text ?_
  refine x_val rfl rfl rfl (v_fieldAddr (off' := 3) Try.underlying46 rfl sz44 (by decide) rfl rfl) ?_
  refine x_val rfl rfl rfl (v_load Try.underlying44 rfl rfl (by first | exact at_ownL (.head _) rfl | exact at_ownL (.tail _ (.head _)) rfl | exact at_ownL (.tail _ (.tail _ (.head _))) rfl | (apply at_ownL; ((repeat (first | exact List.Mem.head _ | apply List.Mem.tail | apply List.mem_append_right))); rfl) | (refine at_ro (by first | exact .head _ | exact .tail _ (.head _) | exact .tail _ (.tail _ (.head _)) | simp) ?_ (by assumption); trivial))) ?_
  refine x_val rfl rfl rfl (v_buildL (places := [(0, 1), (1, 1)]) Try.underlying48 zr48 (by kernel_rfl) rfl rfl) ?_
  refine x_buildSliceL rfl rfl rfl Try.underlying44 sz48 zr48 rfl rfl rfl ?_
  intro p17
  refine x_append (e := 48) [(p17, _), (p4, _)] (l2 := [(p3, Obj.cells (cDt ⟨#[50, 52, 53]⟩ ⟨#[49, 48]⟩ b12).toArray 46), (b12, Obj.cells (cSb 97 ⟨#[69, 109, 109, 97]⟩).toArray 48), (p2, Obj.cells cId.toArray 46)]) (some (b13, (cSb 97 ⟨#[120]⟩), 1)) (len := 1) (xs := (cSb 97 ⟨#[120]⟩)) rfl rfl rfl rfl rfl (rowOK_lit rfl (by decide)) Try.underlying44 ap48 rfl rfl (m := 1) (news := (cSb 97 ⟨#[121]⟩)) (fun j hj => at_ownL (vs := (cSb 97 ⟨#[121]⟩)) (.head _) (by simp)) rfl (by decide) (by decide) ?_
  intro r5 hr5
  refine x_mem (own' := (p4, Obj.cells (cDt ⟨#[50, 52, 53]⟩ ⟨#[49, 48]⟩ b13).toArray 46) :: (rowO 48 r5 ++ [(p3, Obj.cells (cDt ⟨#[50, 52, 53]⟩ ⟨#[49, 48]⟩ b12).toArray 46), (b12, Obj.cells (cSb 97 ⟨#[69, 109, 109, 97]⟩).toArray 48), (p2, Obj.cells cId.toArray 46)])) (fun w h => h.less (List.sublist_cons_self _ _) (fun _ h => h)) ?_
  refine x_val rfl rfl rfl (v_fieldAddr (off' := 3) Try.underlying46 rfl sz44 (by decide) rfl rfl) ?_
  refine x_store [] rfl rfl rfl rfl sz44 rfl (by show 4 ≤ 4; decide) ?_
  refine x_end ?_
  refine t_norm ?_
  refine w_seq ?_
  refine rg_text ?_
  refine x_mem (own' := (p4, Obj.cells [Value.string ⟨#[50, 52, 53]⟩, .string ⟨#[49, 48]⟩, .string ⟨#[]⟩, rowV r5 2].toArray 46) :: (rowO 48 r5 ++ [(p3, Obj.cells (cDt ⟨#[50, 52, 53]⟩ ⟨#[49, 48]⟩ b12).toArray 46), (b12, Obj.cells (cSb 97 ⟨#[69, 109, 109, 97]⟩).toArray 48), (p2, Obj.cells cId.toArray 46)])) (fun w h => h) ?_
  refine x_val rfl rfl rfl (v_move rfl) ?_
  refine x_val rfl rfl rfl (v_load_blk (e := 46) (fz := (0, 0)) (cs := cId.toArray) Try.underlying46 rfl rfl (.tail _ (List.mem_append_right _ (.tail _ (.tail _ (.head _))))) sz46) ?_
  refine x_val rfl rfl rfl (v_load_blk (e := 46) (fz := (0, 0)) (cs := (cDt ⟨#[50, 52, 53]⟩ ⟨#[49, 48]⟩ b12).toArray) Try.underlying46 rfl rfl (.tail _ (List.mem_append_right _ (.head _))) sz46) ?_
  refine x_buildSliceL (cs := cId ++ (cDt ⟨#[50, 52, 53]⟩ ⟨#[49, 48]⟩ b12)) rfl rfl rfl Try.underlying30 sz46 zr46 rfl rfl rfl ?_
  intro p23
  refine x_val rfl rfl rfl (v_buildL (places := [(0, 1), (1, 1), (2, 1)]) Try.underlying32 zr32 (by kernel_rfl) rfl rfl) ?_
  refine x_call rfl rfl rfl Try.func18 (by kernel_rfl) rfl (fun w1 hw1 => c18w (kd := .int .u8 0) (lv := .int .u8 0) (rs := std) (fs := [fId, fEmma]) w1 (hS w1 _ _ hw1 (by simp)) (lits_rd [cId, (cDt ⟨#[50, 52, 53]⟩ ⟨#[49, 48]⟩ b12)] (hw1.own_at _ (.head _)) rfl rfl (by decide) trivial ⟨rd_id, rd_data (hw1.own_at _ (.tail _ (.tail _ (List.mem_append_right _ (.tail _ (.head _)))))) (by unfold okS; decide) (by unfold okS; decide) (by unfold okS; decide), trivial⟩) (by decide)) ?_
  intro v25 wa25 wb25 hm25 hl25 hr25
  obtain ⟨hrd25, r25, rfl⟩ := hr25
  rw [exA] at hrd25 ⊢
  refine x_val rfl rfl rfl (v_assign rfl) ?_
  refine x_end ?_
  refine t_norm ?_
  refine w_seq ?_
  refine rg_draw 7 [(true, 0), (true, 1), (false, 2), (false, 3), (true, 4), (false, 5), (true, 6)] (by kernel_rfl) (by kernel_rfl) ?_
  refine x_val rfl rfl rfl (v_move rfl) ?_
  refine x_val rfl rfl rfl (v_load_blk (e := 46) (fz := (0, 0)) (cs := (cDt ⟨#[50, 52, 53]⟩ ⟨#[49, 48]⟩ b12).toArray) Try.underlying46 rfl rfl (.tail _ (.tail _ (List.mem_append_right _ (.head _)))) sz46) ?_
  refine x_own (τ := Nat) (fun b => .agg #[.string ⟨#[50, 52, 53]⟩, .string ⟨#[49, 32]⟩, .string ⟨#[]⟩, .slice (some ⟨b, 0, none⟩) 1 1]) (fun _ => True) (fun b => (b, Obj.cells (cSb 97 ⟨#[69, 109, 109, 97]⟩).toArray 48) :: (p23, Obj.cells (cId ++ (cDt ⟨#[50, 52, 53]⟩ ⟨#[49, 48]⟩ b12)).toArray 46) :: (p4, Obj.cells [Value.string ⟨#[50, 52, 53]⟩, .string ⟨#[49, 48]⟩, .string ⟨#[]⟩, rowV r5 2].toArray 46) :: (rowO 48 r5 ++ [(p3, Obj.cells (cDt ⟨#[50, 52, 53]⟩ ⟨#[49, 48]⟩ b12).toArray 46), (b12, Obj.cells (cSb 97 ⟨#[69, 109, 109, 97]⟩).toArray 48), (p2, Obj.cells cId.toArray 46)])) rfl rfl rfl Try.func23 (by kernel_rfl) rfl (fun w1 hw1 => c23o ⟨#[50, 52, 53]⟩ ⟨#[49, 32]⟩ ⟨#[69, 109, 109, 97]⟩ 97 w1 hw1) ?_
  intro b28 _
  refine x_buildSliceL (cs := (cDt ⟨#[50, 52, 53]⟩ ⟨#[49, 48]⟩ b12) ++ (cDt ⟨#[50, 52, 53]⟩ ⟨#[49, 32]⟩ b28)) rfl rfl rfl Try.underlying30 sz46 zr46 rfl rfl rfl ?_
  intro p29
  refine x_val rfl rfl rfl (v_buildL (places := [(0, 1), (1, 1), (2, 1)]) Try.underlying32 zr32 (by kernel_rfl) rfl rfl) ?_
  refine x_call rfl rfl rfl Try.func18 (by kernel_rfl) rfl (fun w1 hw1 => c18w (kd := .int .u8 0) (lv := .int .u8 0) (rs := std) (fs := [fEmma, fEmma2]) w1 (hS w1 _ _ hw1 (by simp)) (lits_rd [(cDt ⟨#[50, 52, 53]⟩ ⟨#[49, 48]⟩ b12), (cDt ⟨#[50, 52, 53]⟩ ⟨#[49, 32]⟩ b28)] (hw1.own_at _ (.head _)) rfl rfl (by decide) trivial ⟨rd_data (hw1.own_at _ (.tail _ (.tail _ (.tail _ (.tail _ (List.mem_append_right _ (.tail _ (.head _)))))))) (by unfold okS; decide) (by unfold okS; decide) (by unfold okS; decide), rd_data (hw1.own_at _ (.tail _ (.head _))) (by unfold okS; decide) (by unfold okS; decide) (by unfold okS; decide), trivial⟩) (by decide)) ?_
  intro v31 wa31 wb31 hm31 hl31 hr31
  obtain ⟨hrd31, r31, rfl⟩ := hr31
  rw [exB] at hrd31 ⊢
  refine x_val rfl rfl rfl (v_assign rfl) ?_
  refine x_end ?_
  refine t_norm ?_
  refine w_seq ?_
  refine rg_draw 9 [(true, 0), (true, 1), (true, 2), (false, 3), (false, 4), (false, 5), (true, 6), (false, 7), (true, 8)] (by kernel_rfl) (by kernel_rfl) ?_
  refine x_val rfl rfl rfl (v_move rfl) ?_
  refine x_val rfl rfl rfl (v_load_blk (e := 46) (fz := (0, 0)) (cs := cId.toArray) Try.underlying46 rfl rfl (.tail _ (.tail _ (.tail _ (.tail _ (List.mem_append_right _ (.tail _ (.tail _ (.head _)))))))) sz46) ?_
  refine x_val rfl rfl rfl (v_load_blk (e := 46) (fz := (0, 0)) (cs := [Value.string ⟨#[50, 52, 53]⟩, .string ⟨#[49, 48]⟩, .string ⟨#[]⟩, rowV r5 2].toArray) Try.underlying46 rfl rfl (.tail _ (.tail _ (.tail _ (.head _)))) sz46) ?_
  refine x_own (τ := Nat) (fun b => .agg #[.string ⟨#[57, 57, 57]⟩, .string ⟨#[32, 55]⟩, .string ⟨#[]⟩, .slice (some ⟨b, 0, none⟩) 1 1]) (fun _ => True) (fun b => (b, Obj.cells (cSb 113 ⟨#[122]⟩).toArray 48) :: (p29, Obj.cells ((cDt ⟨#[50, 52, 53]⟩ ⟨#[49, 48]⟩ b12) ++ (cDt ⟨#[50, 52, 53]⟩ ⟨#[49, 32]⟩ b28)).toArray 46) :: (b28, Obj.cells (cSb 97 ⟨#[69, 109, 109, 97]⟩).toArray 48) :: (p23, Obj.cells (cId ++ (cDt ⟨#[50, 52, 53]⟩ ⟨#[49, 48]⟩ b12)).toArray 46) :: (p4, Obj.cells [Value.string ⟨#[50, 52, 53]⟩, .string ⟨#[49, 48]⟩, .string ⟨#[]⟩, rowV r5 2].toArray 46) :: (rowO 48 r5 ++ [(p3, Obj.cells (cDt ⟨#[50, 52, 53]⟩ ⟨#[49, 48]⟩ b12).toArray 46), (b12, Obj.cells (cSb 97 ⟨#[69, 109, 109, 97]⟩).toArray 48), (p2, Obj.cells cId.toArray 46)])) rfl rfl rfl Try.func23 (by kernel_rfl) rfl (fun w1 hw1 => c23o ⟨#[57, 57, 57]⟩ ⟨#[32, 55]⟩ ⟨#[122]⟩ 113 w1 hw1) ?_
  intro b35 _
  refine x_own (τ := Nat) (fun b => .agg #[.string ⟨#[49, 97, 50]⟩, .string ⟨#[32, 32]⟩, .string ⟨#[]⟩, .slice (some ⟨b, 0, none⟩) 1 1]) (fun _ => True) (fun b => (b, Obj.cells (cSb 97 ⟨#[98]⟩).toArray 48) :: (b35, Obj.cells (cSb 113 ⟨#[122]⟩).toArray 48) :: (p29, Obj.cells ((cDt ⟨#[50, 52, 53]⟩ ⟨#[49, 48]⟩ b12) ++ (cDt ⟨#[50, 52, 53]⟩ ⟨#[49, 32]⟩ b28)).toArray 46) :: (b28, Obj.cells (cSb 97 ⟨#[69, 109, 109, 97]⟩).toArray 48) :: (p23, Obj.cells (cId ++ (cDt ⟨#[50, 52, 53]⟩ ⟨#[49, 48]⟩ b12)).toArray 46) :: (p4, Obj.cells [Value.string ⟨#[50, 52, 53]⟩, .string ⟨#[49, 48]⟩, .string ⟨#[]⟩, rowV r5 2].toArray 46) :: (rowO 48 r5 ++ [(p3, Obj.cells (cDt ⟨#[50, 52, 53]⟩ ⟨#[49, 48]⟩ b12).toArray 46), (b12, Obj.cells (cSb 97 ⟨#[69, 109, 109, 97]⟩).toArray 48), (p2, Obj.cells cId.toArray 46)])) rfl rfl rfl Try.func23 (by kernel_rfl) rfl (fun w1 hw1 => c23o ⟨#[49, 97, 50]⟩ ⟨#[32, 32]⟩ ⟨#[98]⟩ 97 w1 hw1) ?_
  intro b36 _
  refine x_buildSliceL (cs := cId ++ ([Value.string ⟨#[50, 52, 53]⟩, .string ⟨#[49, 48]⟩, .string ⟨#[]⟩, rowV r5 2] ++ ((cDt ⟨#[57, 57, 57]⟩ ⟨#[32, 55]⟩ b35) ++ (cDt ⟨#[49, 97, 50]⟩ ⟨#[32, 32]⟩ b36)))) rfl rfl rfl Try.underlying30 sz46 zr46 rfl rfl rfl ?_
  intro p37
  refine x_val rfl rfl rfl (v_buildL (places := [(0, 1), (1, 1), (2, 1)]) Try.underlying32 zr32 (by kernel_rfl) rfl rfl) ?_
  refine x_call rfl rfl rfl Try.func18 (by kernel_rfl) rfl (fun w1 hw1 => c18w (kd := .int .u8 0) (lv := .int .u8 0) (rs := std) (fs := [fId, fDouble, f999, f1a2]) w1 (hS w1 _ _ hw1 (by simp)) (lits_rd [cId, [Value.string ⟨#[50, 52, 53]⟩, .string ⟨#[49, 48]⟩, .string ⟨#[]⟩, rowV r5 2], (cDt ⟨#[57, 57, 57]⟩ ⟨#[32, 55]⟩ b35), (cDt ⟨#[49, 97, 50]⟩ ⟨#[32, 32]⟩ b36)] (hw1.own_at _ (.head _)) rfl rfl (by decide) trivial ⟨rd_id, ⟨_, rfl, ⟨by unfold okS; decide, by unfold okS; decide, by unfold okS; decide⟩, own_row_rd (T := tySb) (f := fun s => cSb s.code s.text) hw1 (fun p hp => (.tail _ (.tail _ (.tail _ (.tail _ (.tail _ (.tail _ (.tail _ (List.mem_append_left _ hp))))))))) (show rowOK 2 r5 2 _ from hr5) rfl (fun _ => rfl) (fun x hx => ⟨rfl, dbl_ok x hx⟩)⟩, rd_data (hw1.own_at _ (.tail _ (.tail _ (.head _)))) (by unfold okS; decide) (by unfold okS; decide) (by unfold okS; decide), rd_data (hw1.own_at _ (.tail _ (.head _))) (by unfold okS; decide) (by unfold okS; decide) (by unfold okS; decide), trivial⟩) (by decide)) ?_
  intro v39 wa39 wb39 hm39 hl39 hr39
  obtain ⟨hrd39, r39, rfl⟩ := hr39
  rw [exC] at hrd39 ⊢
  refine x_val rfl rfl rfl (v_assign rfl) ?_
  refine x_end ?_
  refine t_norm ?_
  refine w_seq ?_
  refine rg_text ?_
  refine x_val rfl rfl rfl (v_move rfl) ?_
  refine x_val rfl rfl rfl (v_buildL (places := [(0, 1), (1, 1), (2, 1)]) Try.underlying32 zr32 (by kernel_rfl) rfl rfl) ?_
  refine x_call rfl rfl rfl Try.func18 (by kernel_rfl) rfl (fun w1 hw1 => c18w (kd := .int .u8 0) (lv := .int .u8 0) (rs := std) (fs := []) w1 (hS w1 _ _ hw1 (by simp)) ⟨none, 0, rfl, by decide, by decide, fun h => by simp at h⟩ (by decide)) ?_
  intro v42 wa42 wb42 hm42 hl42 hr42
  obtain ⟨hrd42, r42, rfl⟩ := hr42
  rw [exD] at hrd42 ⊢
  refine x_val rfl rfl rfl (v_assign rfl) ?_
  refine x_end ?_
  refine t_norm ?_
  refine w_seq ?_
  refine rg_text ?_
  refine x_val rfl rfl rfl (v_buildL (places := [(0, 1), (1, 1)]) Try.underlying54 zr54 (by kernel_rfl) rfl rfl) ?_
  refine x_alloc rfl rfl rfl zr54 ?_
  intro p9
  refine x_store0 [] rfl rfl rfl rfl sz54 rfl rfl ?_
  refine x_end ?_
  refine t_norm ?_
  refine w_seq ?_
  refine rg_text ?_
  refine x_val rfl rfl rfl (v_move rfl) ?_
  refine x_val rfl rfl rfl (v_len_slice Try.underlying35 rfl) ?_
  refine x_bool rfl rfl rfl (v_eql rfl rfl) ?_
  intro b46 hb46
  obtain rfl : b46 = true := by rw [hb46]; rfl
  refine x_val rfl rfl rfl (v_move rfl) ?_
  refine x_if [] rfl rfl rfl rfl rfl (fun hg => by obtain ⟨hg0, _⟩ := hg; (try simp only [List.cons_append, List.nil_append, gvl_nil, gvl_t, gvl_f]); exact v_move rfl) ?_
  refine x_if [] rfl rfl rfl rfl rfl (fun hg => by obtain ⟨hg0, _⟩ := hg; (try simp only [List.cons_append, List.nil_append, gvl_nil, gvl_t, gvl_f]); exact v_load_blk (e := 46) (fz := (0, 0)) (cs := cId.toArray) Try.underlying46 rfl rfl (.tail _ (.tail _ (.tail _ (.tail _ (.tail _ (.tail _ (.tail _ (.tail _ (List.mem_append_right _ (.tail _ (.tail _ (.head _)))))))))))) sz46) ?_
  refine x_if [] rfl rfl rfl rfl rfl (fun hg => by obtain ⟨hg0, _⟩ := hg; (try simp only [List.cons_append, List.nil_append, gvl_nil, gvl_t, gvl_f]); exact v_load_blk (e := 46) (fz := (0, 0)) (cs := (cDt ⟨#[50, 52, 53]⟩ ⟨#[49, 48]⟩ b12).toArray) Try.underlying46 rfl rfl (.tail _ (.tail _ (.tail _ (.tail _ (.tail _ (.tail _ (.tail _ (.tail _ (List.mem_append_right _ (.head _)))))))))) sz46) ?_
  refine x_buildSlice_g (cs := cId ++ (cDt ⟨#[50, 52, 53]⟩ ⟨#[49, 48]⟩ b12)) rfl rfl rfl rfl rfl Try.underlying30 sz46 zr46 rfl rfl rfl ?_
  intro p51
  refine x_if [] rfl rfl rfl rfl rfl (fun hg => by obtain ⟨hg0, _⟩ := hg; (try simp only [List.cons_append, List.nil_append, gvl_nil, gvl_t, gvl_f]); exact v_buildL (places := [(0, 1), (1, 1), (2, 1)]) Try.underlying32 zr32 (by kernel_rfl) rfl rfl) ?_
  refine x_call_ifb [] rfl rfl rfl rfl rfl Try.func19 (by kernel_rfl) (fun hg => by obtain ⟨hg0, _⟩ := hg; (try simp only [List.cons_append, List.nil_append, gvl_nil, gvl_t, gvl_f]); refine ⟨_, rfl, ?_⟩; exact fun w1 hw1 => c19 (kd := .int .u8 0) (lv := .int .u8 0) (rs := std) (fs := [fId, fEmma]) w1 (hS w1 _ _ hw1 (by simp)) (lits_rd [cId, (cDt ⟨#[50, 52, 53]⟩ ⟨#[49, 48]⟩ b12)] (hw1.own_at _ (.head _)) rfl rfl (by decide) trivial ⟨rd_id, rd_data (hw1.own_at _ (.tail _ (.tail _ (.tail _ (.tail _ (.tail _ (.tail _ (.tail _ (.tail _ (.tail _ (List.mem_append_right _ (.tail _ (.head _))))))))))))) (by unfold okS; decide) (by unfold okS; decide) (by unfold okS; decide), trivial⟩) (by decide)) ?_
  intro b53 hb53
  obtain rfl : b53 = true := by rw [hb53, exA]; rfl
  refine x_bool rfl rfl rfl (v_and rfl rfl) ?_
  intro b54 hb54
  obtain rfl : b54 = true := by rw [hb54]; rfl
  refine x_val rfl rfl rfl (v_move rfl) ?_
  refine x_if [] rfl rfl rfl rfl rfl (fun hg => by obtain ⟨hg0, _⟩ := hg; (try simp only [List.cons_append, List.nil_append, gvl_nil, gvl_t, gvl_f]); exact v_move rfl) ?_
  refine x_if [] rfl rfl rfl rfl rfl (fun hg => by obtain ⟨hg0, _⟩ := hg; (try simp only [List.cons_append, List.nil_append, gvl_nil, gvl_t, gvl_f]); exact v_buildL (places := [(0, 1), (1, 1)]) Try.underlying54 zr54 (by kernel_rfl) rfl rfl) ?_
  refine x_if [] rfl rfl rfl rfl rfl (fun hg => by obtain ⟨hg0, _⟩ := hg; (try simp only [List.cons_append, List.nil_append, gvl_nil, gvl_t, gvl_f]); exact v_load_blk (e := 54) (fz := (0, 0)) (cs := [Value.int .i64 (-1), .int .i64 21].toArray) Try.underlying54 rfl rfl (.tail _ (.head _)) sz54) ?_
  refine x_buildSlice_g (cs := [Value.int .i64 (1), .int .i64 (22)] ++ [Value.int .i64 (-1), .int .i64 (21)]) rfl rfl rfl rfl rfl Try.underlying35 sz54 zr54 rfl rfl rfl ?_
  intro p59
  refine x_call_ifb [] rfl rfl rfl rfl rfl Try.func17 (by kernel_rfl) (fun hg => by obtain ⟨hg0, _⟩ := hg; (try simp only [List.cons_append, List.nil_append, gvl_nil, gvl_t, gvl_f]); refine ⟨_, rfl, ?_⟩; exact fun w1 hw1 => c17 (xs := [(⟨1, 22⟩ : Pb), (⟨-1, 21⟩ : Pb)]) (ys := [(⟨1, 22⟩ : Pb), (⟨-1, 21⟩ : Pb)]) w1 (keep_new hrd31 hw1 (.tail _ (.tail _ (.head _))) hm31) (lits_rd (D := fun _ => True) [[Value.int .i64 (1), .int .i64 (22)], [Value.int .i64 (-1), .int .i64 (21)]] (hw1.own_at _ (.head _)) rfl rfl (by decide) trivial ⟨rfl, rfl, trivial⟩)) ?_
  intro b60 hb60
  obtain rfl : b60 = true := by rw [hb60]; rfl
  refine x_bool rfl rfl rfl (v_and rfl rfl) ?_
  intro b61 hb61
  obtain rfl : b61 = true := by rw [hb61]; rfl
  refine x_val rfl rfl rfl (v_move rfl) ?_
  refine x_if [] rfl rfl rfl rfl rfl (fun hg => by obtain ⟨hg0, _⟩ := hg; (try simp only [List.cons_append, List.nil_append, gvl_nil, gvl_t, gvl_f]); exact v_move rfl) ?_
  refine x_if [] rfl rfl rfl rfl rfl (fun hg => by obtain ⟨hg0, _⟩ := hg; (try simp only [List.cons_append, List.nil_append, gvl_nil, gvl_t, gvl_f]); exact v_buildL (places := [(0, 1), (1, 1)]) Try.underlying54 zr54 (by kernel_rfl) rfl rfl) ?_
  refine x_if [] rfl rfl rfl rfl rfl (fun hg => by obtain ⟨hg0, _⟩ := hg; (try simp only [List.cons_append, List.nil_append, gvl_nil, gvl_t, gvl_f]); exact v_buildL (places := [(0, 1), (1, 1)]) Try.underlying54 zr54 (by kernel_rfl) rfl rfl) ?_
  refine x_buildSlice_g (cs := [Value.int .i64 (1), .int .i64 (22)] ++ [Value.int .i64 (3), .int .i64 (20)]) rfl rfl rfl rfl rfl Try.underlying35 sz54 zr54 rfl rfl rfl ?_
  intro p66
  refine x_call_ifb [] rfl rfl rfl rfl rfl Try.func17 (by kernel_rfl) (fun hg => by obtain ⟨hg0, _⟩ := hg; (try simp only [List.cons_append, List.nil_append, gvl_nil, gvl_t, gvl_f]); refine ⟨_, rfl, ?_⟩; exact fun w1 hw1 => c17 (xs := [(⟨1, 22⟩ : Pb), (⟨3, 20⟩ : Pb)]) (ys := [(⟨1, 22⟩ : Pb), (⟨3, 20⟩ : Pb)]) w1 (keep_new hrd39 hw1 (.tail _ (.head _)) hm39) (lits_rd (D := fun _ => True) [[Value.int .i64 (1), .int .i64 (22)], [Value.int .i64 (3), .int .i64 (20)]] (hw1.own_at _ (.head _)) rfl rfl (by decide) trivial ⟨rfl, rfl, trivial⟩)) ?_
  intro b67 hb67
  obtain rfl : b67 = true := by rw [hb67]; rfl
  refine x_bool rfl rfl rfl (v_and rfl rfl) ?_
  intro b68 hb68
  obtain rfl : b68 = true := by rw [hb68]; rfl
  refine x_val rfl rfl rfl (v_move rfl) ?_
  refine x_if [] rfl rfl rfl rfl rfl (fun hg => by obtain ⟨hg0, _⟩ := hg; (try simp only [List.cons_append, List.nil_append, gvl_nil, gvl_t, gvl_f]); exact v_move rfl) ?_
  refine x_if [] rfl rfl rfl rfl rfl (fun hg => by obtain ⟨hg0, _⟩ := hg; (try simp only [List.cons_append, List.nil_append, gvl_nil, gvl_t, gvl_f]); exact v_load_blk (e := 54) (fz := (0, 0)) (cs := [Value.int .i64 (-1), .int .i64 21].toArray) Try.underlying54 rfl rfl (.tail _ (.tail _ (.tail _ (.head _)))) sz54) ?_
  refine x_if [] rfl rfl rfl rfl rfl (fun hg => by obtain ⟨hg0, _⟩ := hg; (try simp only [List.cons_append, List.nil_append, gvl_nil, gvl_t, gvl_f]); exact v_load_blk (e := 54) (fz := (0, 0)) (cs := [Value.int .i64 (-1), .int .i64 21].toArray) Try.underlying54 rfl rfl (.tail _ (.tail _ (.tail _ (.head _)))) sz54) ?_
  refine x_buildSlice_g (cs := [Value.int .i64 (-1), .int .i64 (21)] ++ [Value.int .i64 (-1), .int .i64 (21)]) rfl rfl rfl rfl rfl Try.underlying35 sz54 zr54 rfl rfl rfl ?_
  intro p73
  refine x_call_ifb [] rfl rfl rfl rfl rfl Try.func17 (by kernel_rfl) (fun hg => by obtain ⟨hg0, _⟩ := hg; (try simp only [List.cons_append, List.nil_append, gvl_nil, gvl_t, gvl_f]); refine ⟨_, rfl, ?_⟩; exact fun w1 hw1 => c17 (xs := [(⟨-1, 21⟩ : Pb), (⟨-1, 21⟩ : Pb)]) (ys := [(⟨-1, 21⟩ : Pb), (⟨-1, 21⟩ : Pb)]) w1 (keep_new hrd42 hw1 (.head _) hm42) (lits_rd (D := fun _ => True) [[Value.int .i64 (-1), .int .i64 (21)], [Value.int .i64 (-1), .int .i64 (21)]] (hw1.own_at _ (.head _)) rfl rfl (by decide) trivial ⟨rfl, rfl, trivial⟩)) ?_
  intro b74 hb74
  obtain rfl : b74 = true := by rw [hb74]; rfl
  refine x_bool rfl rfl rfl (v_and rfl rfl) ?_
  intro b75 hb75
  obtain rfl : b75 = true := by rw [hb75]; rfl
  refine x_val rfl rfl rfl (v_assign rfl) ?_
  refine x_end ?_
  refine t_norm ?_
  refine w_ret ?_
  refine ret1 rfl rfl (fun w' hm => ⟨?_, hm.base (by simp)⟩)
  rfl

end Go.Proofs.Ytmihkbciilloaaa
