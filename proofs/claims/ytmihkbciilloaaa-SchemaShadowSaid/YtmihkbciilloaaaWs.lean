import Derived.Test.YtmihkbciilloaaaWr
import Derived.Test.YtmihkbciilloaaaPkDeep2
namespace Go.Proofs.Ytmihkbciilloaaa
open Go.RowKit Go.PK
set_option linter.unusedVariables false
set_option linter.unusedSimpArgs false

theorem u8_of (n : Int) : ∃ c : UInt8, IntKind.u8.wrap n = (c.toNat : Nat) := by
  have h : 0 ≤ IntKind.u8.wrap n ∧ IntKind.u8.wrap n ≤ 255 := by rw [IntKind.wrap_u8]; omega
  refine ⟨UInt8.ofNat (IntKind.u8.wrap n).toNat, ?_⟩
  rw [UInt8.toNat_ofNat_of_lt' (by show _ < 256; omega)]
  omega
set_option maxRecDepth 100000 in
theorem c14 {v : Value} {fs : List Fl} {kd lv q0 q1 q2 : Int} {D : Nat → Prop} (M : Nat) (w : World) (hfs : sliceRd tyFl D w v fs) (hq0 : in64 q0) (hq1 : in64 q1) (hq2 : in64 q2) (hM : 1000 ≤ M ∧ M ≤ 100000) (hlen : fs.length ≤ M) (hsm : ∀ f ∈ fs, f.tag.size ≤ M ∧ f.subs.length ≤ M) :
    Calls Try.prog 14 #[.agg #[.int .u8 kd, .int .u8 lv, v], .agg #[.int .i64 q0, .int .i64 q1, .int .i64 q2]] w fun e w' => ∃ R Ss gs, e = .returned (.agg #[.int .u8 kd, .int .u8 lv, rowV R gs.length]) ∧ Later w w' ∧ DeepOK R Ss gs ∧ Mem w' (subsO Ss ++ rowO 46 R) [(w, fun _ => True)] ∧ gs.length = fs.length ∧ (∀ g ∈ gs, g.tag.size ≤ M + 1 ∧ g.subs.length ≤ M + 1) ∧ (7 ≤ q0 % 9 → gs = fs) := by
  obtain ⟨A1, c1, rfl, hlc1, hmx1, hA1⟩ := id hfs
  refine enter (vs := [.agg #[.int .u8 kd, .int .u8 lv, .slice A1 fs.length c1], .agg #[.int .i64 q0, .int .i64 q1, .int .i64 q2]]) Try.func14 rfl Try.ntmps14 rfl ?_
  refine w_seq ?_
  refine rg_text ?_
  refine x_box rfl rfl rfl rfl ?_
  intro p2
  refine x_box rfl rfl rfl rfl ?_
  intro p3
  refine x_alloc rfl rfl rfl zr32 ?_
  intro p4
  refine x_end ?_
  refine t_norm ?_
  refine w_seq ?_
  refine rg_text ?_
  refine x_val rfl rfl rfl (v_fieldAddr (off' := 0) Try.underlying32 rfl sz5 (by decide) rfl rfl) ?_
  refine x_val rfl rfl rfl (v_load Try.underlying5 rfl rfl (by first | exact at_ownL (.head _) rfl | exact at_ownL (.tail _ (.head _)) rfl | exact at_ownL (.tail _ (.tail _ (.head _))) rfl | (apply at_ownL; ((repeat (first | exact List.Mem.head _ | apply List.Mem.tail | apply List.mem_append_right))); rfl) | (refine at_ro (by first | exact .head _ | exact .tail _ (.head _) | exact .tail _ (.tail _ (.head _)) | simp) ?_ (by assumption); trivial))) ?_
  refine x_val rfl rfl rfl (v_fieldAddr (off' := 1) Try.underlying32 rfl sz5 (by decide) rfl rfl) ?_
  refine x_val rfl rfl rfl (v_load Try.underlying5 rfl rfl (by first | exact at_ownL (.head _) rfl | exact at_ownL (.tail _ (.head _)) rfl | exact at_ownL (.tail _ (.tail _ (.head _))) rfl | (apply at_ownL; ((repeat (first | exact List.Mem.head _ | apply List.Mem.tail | apply List.mem_append_right))); rfl) | (refine at_ro (by first | exact .head _ | exact .tail _ (.head _) | exact .tail _ (.tail _ (.head _)) | simp) ?_ (by assumption); trivial))) ?_
  refine x_val rfl rfl rfl (v_buildL (places := [(0, 1), (1, 1), (2, 1)]) Try.underlying32 zr32 (by kernel_rfl) rfl rfl) ?_
  refine x_alloc rfl rfl rfl zr32 ?_
  intro p5
  refine x_store0 [] rfl rfl rfl rfl sz32 rfl rfl ?_
  refine x_end ?_
  refine t_norm ?_
  refine w_seq ?_
  refine w_seq ?_
  refine rg_text ?_
  refine x_val rfl rfl rfl (v_assign rfl) ?_
  refine x_end ?_
  refine t_norm ?_
  refine w_block ?_
  refine w_loop (σ := Nat × RowS × List RowS) (fun x => x.1 ≤ fs.length ∧ DeepOK x.2.1 x.2.2 (fs.take x.1)) (fun x => [(2, .pointer (some ⟨p2, 0, none⟩)), (3, .pointer (some ⟨p3, 0, none⟩)), (4, .pointer (some ⟨p4, 0, none⟩)), (5, .pointer (some ⟨p5, 0, none⟩)), (6, Value.int .i64 (x.1 : Nat))]) (fun x => subsO (x.2.2) ++ (rowO 46 (x.2.1) ++ [(p5, Obj.cells [Value.int .u8 kd, .int .u8 lv, rowV (x.2.1) (x.1)].toArray 32), (p4, Obj.cells [Value.int .u8 0, .int .u8 0, .slice none 0 0].toArray 32), (p3, Obj.cells [Value.int .i64 q0, .int .i64 q1, .int .i64 q2].toArray 29), (p2, Obj.cells [Value.int .u8 kd, .int .u8 lv, .slice A1 fs.length c1].toArray 32)])) (fun x => [(w, fun _ => True)]) (fun x => fs.length - x.1) ((0, none, [])) (⟨Nat.zero_le _, DeepOK.nil⟩) (l_start (by repeat (first | exact Sub.nil | refine Sub.cons rfl ?_)) (fun _ h => h)) ?_
  rintro ⟨k, R, Ss⟩ ⟨hk, hd⟩
  refine w_state ([(2, .pointer (some ⟨p2, 0, none⟩)), (3, .pointer (some ⟨p3, 0, none⟩)), (4, .pointer (some ⟨p4, 0, none⟩)), (5, .pointer (some ⟨p5, 0, none⟩)), (6, Value.int .i64 (k : Nat))]) (subsO (Ss) ++ (rowO 46 (R) ++ [(p5, Obj.cells [Value.int .u8 kd, .int .u8 lv, rowV (R) (k)].toArray 32), (p4, Obj.cells [Value.int .u8 0, .int .u8 0, .slice none 0 0].toArray 32), (p3, Obj.cells [Value.int .i64 q0, .int .i64 q1, .int .i64 q2].toArray 29), (p2, Obj.cells [Value.int .u8 kd, .int .u8 lv, .slice A1 fs.length c1].toArray 32)])) ([(w, fun _ => True)]) ?_
  dsimp only at hk hd
  have hln : (fs.take k).length = k := by simp; omega
  have hrw := hd.row
  rw [hln] at hrw
  refine w_seq ?_
  refine w_seq ?_
  refine rg_text ?_
  refine x_val rfl rfl rfl (v_move rfl) ?_
  refine x_val rfl rfl rfl (v_fieldAddr (off' := 2) Try.underlying32 rfl sz30 (by decide) rfl rfl) ?_
  refine x_val rfl rfl rfl (v_load Try.underlying30 rfl rfl (by first | exact at_ownL (.head _) rfl | exact at_ownL (.tail _ (.head _)) rfl | exact at_ownL (.tail _ (.tail _ (.head _))) rfl | (apply at_ownL; ((repeat (first | exact List.Mem.head _ | apply List.Mem.tail | apply List.mem_append_right))); rfl) | (refine at_ro (by first | exact .head _ | exact .tail _ (.head _) | exact .tail _ (.tail _ (.head _)) | simp) ?_ (by assumption); trivial))) ?_
  refine x_val rfl rfl rfl (v_len_slice Try.underlying30 rfl) ?_
  refine x_bool rfl rfl rfl (v_lss rfl rfl) ?_
  intro b19 hb19
  refine x_end ?_
  refine t_norm ?_
  refine w_cond rfl (fun hc19 => ?_) (fun hc19 => ?_)
  · simp only [hb19, decide_eq_true_eq, decide_eq_false_iff_not, Bool.and_eq_true, Bool.or_eq_true, Bool.and_eq_false_iff, Bool.or_eq_false_iff, Bool.not_eq_true', Bool.not_eq_false', ne_eq, Decidable.not_not] at hc19
    have hkl : k < fs.length := by omega
    obtain ⟨B, c, hf, hokf, hsb⟩ := fat_of hfs (show k < fs.length by omega)
    obtain ⟨b, off, len, cap, hv, hnl, hlen, hcs⟩ := hf.ex
    refine w_skip ?_
    refine t_norm ?_
    refine w_seq ?_
    refine w_block ?_
    refine w_seq ?_
    refine rg_text ?_
    refine x_val rfl rfl rfl (v_fieldAddr (off' := 2) Try.underlying32 rfl sz30 (by decide) rfl rfl) ?_
    refine x_val rfl rfl rfl (v_load Try.underlying30 rfl rfl (by first | exact at_ownL (.head _) rfl | exact at_ownL (.tail _ (.head _)) rfl | exact at_ownL (.tail _ (.tail _ (.head _))) rfl | (apply at_ownL; ((repeat (first | exact List.Mem.head _ | apply List.Mem.tail | apply List.mem_append_right))); rfl) | (refine at_ro (by first | exact .head _ | exact .tail _ (.head _) | exact .tail _ (.tail _ (.head _)) | simp) ?_ (by assumption); trivial))) ?_
    refine x_val rfl rfl rfl (v_move rfl) ?_
    refine x_val rfl rfl rfl (v_indexAddr Try.underlying30 sz46 (congrArg some hv) rfl (by first | omega | (dsimp only; omega)) rfl) ?_
    refine x_val rfl rfl rfl (v_loadN (vs := [Value.string fs[k].tag, Value.string fs[k].ind, Value.string fs[k].data, Value.slice B fs[k].subs.length c]) Try.underlying46 rfl sz46 rfl (fun i hi => at_ro (.head _) trivial (hcs i hi))) ?_
    refine x_alloc rfl rfl rfl zr46 ?_
    intro p7
    refine x_store0 [] rfl rfl rfl rfl sz46 rfl rfl ?_
    refine x_end ?_
    refine t_norm ?_
    refine w_seq ?_
    refine rg_text ?_
    refine x_buildSlice0 rfl rfl rfl Try.underlying44 sz48 ?_
    intro p27
    refine x_val rfl rfl rfl (v_fieldAddr (off' := 3) Try.underlying46 rfl sz44 (by decide) rfl rfl) ?_
    refine x_val rfl rfl rfl (v_load Try.underlying44 rfl rfl (by first | exact at_ownL (.head _) rfl | exact at_ownL (.tail _ (.head _)) rfl | exact at_ownL (.tail _ (.tail _ (.head _))) rfl | (apply at_ownL; ((repeat (first | exact List.Mem.head _ | apply List.Mem.tail | apply List.mem_append_right))); rfl) | (refine at_ro (by first | exact .head _ | exact .tail _ (.head _) | exact .tail _ (.tail _ (.head _)) | simp) ?_ (by assumption); trivial))) ?_
    obtain ⟨css, hcl, hme, hfl, hrd, hno, hat, hpos⟩ := hsb.cells
    obtain ⟨hcf, hsok⟩ := tySb_cells hcl hrd
    rw [hcf] at hfl hat
    have hsm1 := hsm fs[k] (List.getElem_mem hkl)
    refine x_append_any (e := 48) (news := fs[k].subs.flatMap sbC) [] (l2 := (p7, Obj.cells [Value.string fs[k].tag, Value.string fs[k].ind, Value.string fs[k].data, Value.slice B fs[k].subs.length c].toArray 46) :: (subsO (Ss) ++ (rowO 46 (R) ++ [(p5, Obj.cells [Value.int .u8 kd, .int .u8 lv, rowV (R) (k)].toArray 32), (p4, Obj.cells [Value.int .u8 0, .int .u8 0, .slice none 0 0].toArray 32), (p3, Obj.cells [Value.int .i64 q0, .int .i64 q1, .int .i64 q2].toArray 29), (p2, Obj.cells [Value.int .u8 kd, .int .u8 lv, .slice A1 fs.length c1].toArray 32)]))) (some (p27, [], 0)) (len := 0) (xs := []) rfl rfl rfl rfl rfl ⟨rfl, Nat.le_refl _, Nat.zero_le _, rfl, rfl⟩ Try.underlying44 ap48 rfl hfl hno (fun w1 hw1 a ha j u hu => (hw1.cell_ro (s := (w, fun _ => True)) (by simp) trivial (cell_lt (hat a ha j u hu))).trans (hat a ha j u hu)) (sbC_one _) (by simp only [maxLen]; omega) (by omega) ?_
    intro S hS
    replace hS : rowOK 2 S fs[k].subs.length (fs[k].subs.flatMap sbC) := by simpa using hS
    rw [show 0 + fs[k].subs.length = fs[k].subs.length from Nat.zero_add _]
    refine x_val rfl rfl rfl (v_fieldAddr (off' := 3) Try.underlying46 rfl sz44 (by decide) rfl rfl) ?_
    refine x_store (rowO 48 S) rfl rfl rfl rfl sz44 rfl (by show 4 ≤ 4; decide) ?_
    refine x_end ?_
    refine t_norm ?_
    refine rg_text ?_
    refine x_mem (own' := rowO 48 S ++ ((p7, Obj.cells (flS fs[k] S).toArray 46) :: (subsO (Ss) ++ (rowO 46 (R) ++ [(p5, Obj.cells [Value.int .u8 kd, .int .u8 lv, rowV (R) (k)].toArray 32), (p4, Obj.cells [Value.int .u8 0, .int .u8 0, .slice none 0 0].toArray 32), (p3, Obj.cells [Value.int .i64 q0, .int .i64 q1, .int .i64 q2].toArray 29), (p2, Obj.cells [Value.int .u8 kd, .int .u8 lv, .slice A1 fs.length c1].toArray 32)])))) (fun w h => h) ?_
    refine x_val rfl rfl rfl (v_fieldAddr (off' := 2) Try.underlying32 rfl sz30 (by decide) rfl rfl) ?_
    refine x_val rfl rfl rfl (v_load Try.underlying30 rfl rfl (by first | exact at_ownL (.head _) rfl | exact at_ownL (.tail _ (.head _)) rfl | exact at_ownL (.tail _ (.tail _ (.head _))) rfl | (apply at_ownL; ((repeat (first | exact List.Mem.head _ | apply List.Mem.tail | apply List.mem_append_right))); rfl) | (refine at_ro (by first | exact .head _ | exact .tail _ (.head _) | exact .tail _ (.tail _ (.head _)) | simp) ?_ (by assumption); trivial))) ?_
    refine x_val rfl rfl rfl (v_load_blk Try.underlying46 rfl rfl (by first | exact .head _ | exact .tail _ (.head _) | exact .tail _ (.tail _ (.head _)) | (repeat (first | exact List.Mem.head _ | apply List.Mem.tail | apply List.mem_append_right))) (by exact sz46)) ?_
    refine x_buildSliceL (cs := flS fs[k] S) rfl rfl rfl Try.underlying30 sz46 zr46 rfl rfl rfl ?_
    intro p35
    refine x_append (e := 46) ((p35, Obj.cells (flS fs[k] S).toArray 46) :: (rowO 48 S ++ ((p7, Obj.cells (flS fs[k] S).toArray 46) :: subsO Ss))) (l2 := [(p5, Obj.cells [Value.int .u8 kd, .int .u8 lv, rowV (R) (k)].toArray 32), (p4, Obj.cells [Value.int .u8 0, .int .u8 0, .slice none 0 0].toArray 32), (p3, Obj.cells [Value.int .i64 q0, .int .i64 q1, .int .i64 q2].toArray 29), (p2, Obj.cells [Value.int .u8 kd, .int .u8 lv, .slice A1 fs.length c1].toArray 32)]) R (len := k) (xs := (List.zipWith flS (fs.take k) Ss).flatten) rfl rfl rfl rfl (by simp only [List.append_assoc, List.cons_append, List.nil_append]) hrw Try.underlying30 ap46 rfl rfl (m := 1) (news := flS fs[k] S) (fun i hi => at_ownL (vs := flS fs[k] S) (.head _) (by rw [Nat.zero_add]; exact List.getElem?_eq_getElem hi)) rfl (by simp only [maxLen]; omega) (by omega) ?_
    intro R' hR'
    refine x_mem (own' := (p35, Obj.cells (flS fs[k] S).toArray 46) :: (rowO 48 S ++ ((p7, Obj.cells (flS fs[k] S).toArray 46) :: (subsO Ss ++ (rowO 46 R' ++ [(p5, Obj.cells [Value.int .u8 kd, .int .u8 lv, rowV (R) (k)].toArray 32), (p4, Obj.cells [Value.int .u8 0, .int .u8 0, .slice none 0 0].toArray 32), (p3, Obj.cells [Value.int .i64 q0, .int .i64 q1, .int .i64 q2].toArray 29), (p2, Obj.cells [Value.int .u8 kd, .int .u8 lv, .slice A1 fs.length c1].toArray 32)]))))) (fun w h => h.to (by simp only [List.append_assoc, List.cons_append, List.nil_append])) ?_
    refine x_val rfl rfl rfl (v_fieldAddr (off' := 2) Try.underlying32 rfl sz30 (by decide) rfl rfl) ?_
    refine x_store ((p35, Obj.cells (flS fs[k] S).toArray 46) :: (rowO 48 S ++ ((p7, Obj.cells (flS fs[k] S).toArray 46) :: (subsO Ss ++ rowO 46 R')))) (l2 := [(p4, Obj.cells [Value.int .u8 0, .int .u8 0, .slice none 0 0].toArray 32), (p3, Obj.cells [Value.int .i64 q0, .int .i64 q1, .int .i64 q2].toArray 29), (p2, Obj.cells [Value.int .u8 kd, .int .u8 lv, .slice A1 fs.length c1].toArray 32)]) (cs := [Value.int .u8 kd, .int .u8 lv, rowV R k]) (e := 32) rfl rfl rfl (by simp only [List.append_assoc, List.cons_append, List.nil_append]) sz30 rfl (by show 3 ≤ 3; decide) ?_
    refine x_end ?_
    refine b_norm ?_
    refine t_norm ?_
    refine rg_text ?_
    refine x_val rfl rfl rfl (v_move rfl) ?_
    refine x_val rfl rfl rfl (v_addi rfl rfl rfl (by first | omega | (dsimp only; omega))) ?_
    refine x_val rfl rfl rfl (v_assign rfl) ?_
    refine x_end ?_
    have hd' := hd.snoc (f := fs[k]) hln.symm hR' hS ⟨hokf, hsok⟩
    exact l_norm (k + 1, R', Ss ++ [S]) ⟨by dsimp only; omega, by dsimp only; rw [List.take_succ_eq_append_getElem hkl]; exact hd'⟩ (by simp only; omega) (by repeat (first | exact Sub.nil | refine Sub.cons rfl ?_)) (fun w1 h => by dsimp only; rw [subsO_snoc, List.append_assoc]; exact (h.to (own' := (p35, Obj.cells (flS fs[k] S).toArray 46) :: (rowO 48 S ++ ((p7, Obj.cells (flS fs[k] S).toArray 46) :: (subsO (Ss) ++ (rowO 46 (R') ++ [(p5, Obj.cells [Value.int .u8 kd, .int .u8 lv, rowV (R') (k + 1)].toArray 32), (p4, Obj.cells [Value.int .u8 0, .int .u8 0, .slice none 0 0].toArray 32), (p3, Obj.cells [Value.int .i64 q0, .int .i64 q1, .int .i64 q2].toArray 29), (p2, Obj.cells [Value.int .u8 kd, .int .u8 lv, .slice A1 fs.length c1].toArray 32)]))))) (show ((p35, Obj.cells (flS fs[k] S).toArray 46) :: (rowO 48 S ++ ((p7, Obj.cells (flS fs[k] S).toArray 46) :: (subsO Ss ++ rowO 46 R')))) ++ [(p5, Obj.cells [Value.int .u8 kd, .int .u8 lv, rowV (R') (k + 1)].toArray 32), (p4, Obj.cells [Value.int .u8 0, .int .u8 0, .slice none 0 0].toArray 32), (p3, Obj.cells [Value.int .i64 q0, .int .i64 q1, .int .i64 q2].toArray 29), (p2, Obj.cells [Value.int .u8 kd, .int .u8 lv, .slice A1 fs.length c1].toArray 32)] = _ from by simp only [List.append_assoc, List.cons_append, List.nil_append])).less (((List.Sublist.refl _).append ((List.Sublist.refl _).cons _)).cons _) (fun _ h => h))
  · simp only [hb19, decide_eq_true_eq, decide_eq_false_iff_not, Bool.and_eq_true, Bool.or_eq_true, Bool.and_eq_false_iff, Bool.or_eq_false_iff, Bool.not_eq_true', Bool.not_eq_false', ne_eq, Decidable.not_not] at hc19
    obtain rfl : k = fs.length := by omega
    rw [List.take_length] at hd
    refine w_exit ?_
    refine t_exit ?_
    refine t_exit ?_
    refine b_hit ?_
    refine t_norm ?_
    refine w_seq ?_
    refine w_seq ?_
    refine rg_text ?_
    refine x_val rfl rfl rfl (v_fieldAddr (off' := 2) Try.underlying32 rfl sz30 (by decide) rfl rfl) ?_
    refine x_val rfl rfl rfl (v_load Try.underlying30 rfl rfl (by first | exact at_ownL (.head _) rfl | exact at_ownL (.tail _ (.head _)) rfl | exact at_ownL (.tail _ (.tail _ (.head _))) rfl | (apply at_ownL; ((repeat (first | exact List.Mem.head _ | apply List.Mem.tail | apply List.mem_append_right))); rfl) | (refine at_ro (by first | exact .head _ | exact .tail _ (.head _) | exact .tail _ (.tail _ (.head _)) | simp) ?_ (by assumption); trivial))) ?_
    refine x_val rfl rfl rfl (v_len_slice Try.underlying30 rfl) ?_
    refine x_bool rfl rfl rfl (v_eql rfl rfl) ?_
    intro b41 hb41
    refine x_end ?_
    refine t_norm ?_
    refine w_cond rfl (fun hc41 => ?_) (fun hc41 => ?_)
    · simp only [hb41, decide_eq_true_eq, decide_eq_false_iff_not, Bool.and_eq_true, Bool.or_eq_true, Bool.and_eq_false_iff, Bool.or_eq_false_iff, Bool.not_eq_true', Bool.not_eq_false', ne_eq, Decidable.not_not] at hc41
      refine w_seq ?_
      refine rg_text ?_
      refine x_val rfl rfl rfl (v_load_blk (e := 32) (fz := (0, 0)) (cs := [Value.int .u8 kd, .int .u8 lv, rowV R fs.length].toArray) Try.underlying32 rfl rfl (List.mem_append_right _ (List.mem_append_right _ (.head _))) (by exact sz32)) ?_
      refine x_store0 (subsO Ss ++ (rowO 46 R ++ [(p5, Obj.cells [Value.int .u8 kd, .int .u8 lv, rowV (R) (fs.length)].toArray 32)])) (l2 := [(p3, Obj.cells [Value.int .i64 q0, .int .i64 q1, .int .i64 q2].toArray 29), (p2, Obj.cells [Value.int .u8 kd, .int .u8 lv, .slice A1 fs.length c1].toArray 32)]) (cs := #[Value.int .u8 0, .int .u8 0, .slice none 0 0]) (e := 32) rfl rfl rfl (by simp only [List.append_assoc, List.cons_append, List.nil_append]) sz32 rfl rfl ?_
      refine x_end ?_
      refine t_norm ?_
      refine w_ret ?_
      refine t_ret ?_
      refine retc rfl rfl (List.mem_append_right _ (.head _)) Try.underlying32 rfl sz32 (fun w' hm => ⟨R, Ss, fs, rfl, hm.base (by simp), hd, hm.less ((List.sublist_append_left (subsO Ss ++ rowO 46 R) [(p5, Obj.cells [Value.int .u8 kd, .int .u8 lv, rowV (R) (fs.length)].toArray 32)]).trans (by rw [List.append_assoc]; exact List.sublist_append_left _ _)) (fun _ h => h), rfl, fun g hg => by have := hsm g hg; omega, fun _ => rfl⟩)
    · simp only [hb41, decide_eq_true_eq, decide_eq_false_iff_not, Bool.and_eq_true, Bool.or_eq_true, Bool.and_eq_false_iff, Bool.or_eq_false_iff, Bool.not_eq_true', Bool.not_eq_false', ne_eq, Decidable.not_not] at hc41
      obtain ⟨bR, cs, cap, rfl, hc1, hc2, hc3, hc4⟩ := hd.there (by omega)
      obtain ⟨n, hn⟩ : ∃ n : Nat, q1 % (fs.length : Nat) = (n : Nat) := ⟨(q1 % (fs.length : Nat)).toNat, by have := Int.emod_nonneg q1 (show (fs.length : Int) ≠ 0 by omega); omega⟩
      have hnl : n < fs.length := by have := Int.emod_lt_of_pos q1 (show (0 : Int) < fs.length by omega); omega
      have hnS : n < Ss.length := by rw [hd.len]; exact hnl
      have hsn := hd.subs n hnS hnl
      have hgn := hd.ok _ (List.getElem_mem hnl)
      have hsm1 := hsm _ (List.getElem_mem hnl)
      have hszn : fs[n].tag.size ≤ M + 1 ∧ fs[n].subs.length ≤ M + 1 := ⟨by omega, by omega⟩
      refine w_skip ?_
      refine t_norm ?_
      refine w_seq ?_
      refine rg_text ?_
      refine x_val rfl rfl rfl (v_indexArr (j := 1) (off' := 1) Try.underlying29 sz3 rfl rfl (by first | omega | (dsimp only; omega)) rfl) ?_
      refine x_val rfl rfl rfl (v_load Try.underlying3 rfl rfl (by first | exact at_ownL (.head _) rfl | exact at_ownL (.tail _ (.head _)) rfl | exact at_ownL (.tail _ (.tail _ (.head _))) rfl | (apply at_ownL; ((repeat (first | exact List.Mem.head _ | apply List.Mem.tail | apply List.mem_append_right))); rfl) | (refine at_ro (by first | exact .head _ | exact .tail _ (.head _) | exact .tail _ (.tail _ (.head _)) | simp) ?_ (by assumption); trivial))) ?_
      refine x_val rfl rfl rfl (v_fieldAddr (off' := 2) Try.underlying32 rfl sz30 (by decide) rfl rfl) ?_
      refine x_val rfl rfl rfl (v_load Try.underlying30 rfl rfl (by first | exact at_ownL (.head _) rfl | exact at_ownL (.tail _ (.head _)) rfl | exact at_ownL (.tail _ (.tail _ (.head _))) rfl | (apply at_ownL; ((repeat (first | exact List.Mem.head _ | apply List.Mem.tail | apply List.mem_append_right))); rfl) | (refine at_ro (by first | exact .head _ | exact .tail _ (.head _) | exact .tail _ (.tail _ (.head _)) | simp) ?_ (by assumption); trivial))) ?_
      refine x_val rfl rfl rfl (v_len_slice Try.underlying30 rfl) ?_
      refine x_callv rfl rfl rfl Try.func28 (by kernel_rfl) rfl (fun w1 hw1 => c28 _ _ w1 (by omega) (by omega) hq1.1 hq1.2) ?_
      refine x_val rfl rfl rfl (v_assign rfl) ?_
      refine x_end ?_
      refine t_norm ?_
      refine w_seq ?_
      refine rg_text ?_
      refine x_val rfl rfl rfl (v_fieldAddr (off' := 2) Try.underlying32 rfl sz30 (by decide) rfl rfl) ?_
      refine x_val rfl rfl rfl (v_load Try.underlying30 rfl rfl (by first | exact at_ownL (.head _) rfl | exact at_ownL (.tail _ (.head _)) rfl | exact at_ownL (.tail _ (.tail _ (.head _))) rfl | (apply at_ownL; ((repeat (first | exact List.Mem.head _ | apply List.Mem.tail | apply List.mem_append_right))); rfl) | (refine at_ro (by first | exact .head _ | exact .tail _ (.head _) | exact .tail _ (.tail _ (.head _)) | simp) ?_ (by assumption); trivial))) ?_
      refine x_val rfl rfl rfl (v_move rfl) ?_
      refine x_val rfl rfl rfl (v_indexAddr (j := n) (off' := n * 4) Try.underlying30 sz46 rfl (congrArg (fun z : Int => some (Value.int .i64 z)) hn) hnl (Nat.zero_add _)) ?_
      refine x_val rfl rfl rfl (v_loadN (vs := flS fs[n] Ss[n]) Try.underlying46 rfl sz46 rfl (fun i hi => at_ownL (vs := cs) (List.mem_append_right _ (.head _)) ((hd.at hnl hnS hi).trans (List.getElem?_eq_getElem hi)))) ?_
      refine x_alloc rfl rfl rfl zr46 ?_
      intro p9
      refine x_store0 [] rfl rfl rfl rfl sz46 rfl rfl ?_
      refine x_end ?_
      refine t_norm ?_
      refine w_seq_cut (σ := Fl × RowS) (fun y => y.1.good ∧ rowOK 2 y.2 y.1.subs.length (y.1.subs.flatMap sbC) ∧ (y.1.tag.size ≤ M + 1 ∧ y.1.subs.length ≤ M + 1) ∧ (7 ≤ q0 % 9 → y.1 = fs[n])) (fun y => [(4, .pointer (some ⟨p4, 0, none⟩)), (5, .pointer (some ⟨p5, 0, none⟩)), (8, Value.int .i64 (q1 % (fs.length : Nat))), (9, .pointer (some ⟨p9, 0, none⟩))]) (fun y => (p9, Obj.cells (flS (y.1) (y.2)).toArray 46) :: (subsO (Ss.set n (y.2)) ++ (rowO 46 (some (bR, cs, cap)) ++ [(p5, Obj.cells [Value.int .u8 kd, .int .u8 lv, rowV (some (bR, cs, cap)) (fs.length)].toArray 32), (p4, Obj.cells [Value.int .u8 0, .int .u8 0, .slice none 0 0].toArray 32), (p3, Obj.cells [Value.int .i64 q0, .int .i64 q1, .int .i64 q2].toArray 29), (p2, Obj.cells [Value.int .u8 kd, .int .u8 lv, .slice A1 fs.length c1].toArray 32)]))) (fun y => [(w, fun _ => True)]) ?_ ?_
      · refine w_seq ?_
        refine rg_text ?_
        refine x_val rfl rfl rfl (v_indexArr (j := 0) (off' := 0) Try.underlying29 sz3 rfl rfl (by first | omega | (dsimp only; omega)) rfl) ?_
        refine x_val rfl rfl rfl (v_load Try.underlying3 rfl rfl (by first | exact at_ownL (.head _) rfl | exact at_ownL (.tail _ (.head _)) rfl | exact at_ownL (.tail _ (.tail _ (.head _))) rfl | (apply at_ownL; ((repeat (first | exact List.Mem.head _ | apply List.Mem.tail | apply List.mem_append_right))); rfl) | (refine at_ro (by first | exact .head _ | exact .tail _ (.head _) | exact .tail _ (.tail _ (.head _)) | simp) ?_ (by assumption); trivial))) ?_
        refine x_callv rfl rfl rfl Try.func28 (by kernel_rfl) rfl (fun w1 hw1 => c28 _ _ w1 (by omega) (by omega) hq0.1 hq0.2) ?_
        refine x_end ?_
        refine t_norm ?_
        refine w_block ?_
        refine w_seq ?_
        refine rg_text ?_
        refine x_bool rfl rfl rfl (v_eql rfl rfl) ?_
        intro b58 hb58
        refine x_val rfl rfl rfl (v_assign rfl) ?_
        refine x_end ?_
        refine t_norm ?_
        refine w_cond rfl (fun hc57 => ?_) (fun hc57 => ?_)
        · simp only [hb58, decide_eq_true_eq, decide_eq_false_iff_not, Bool.and_eq_true, Bool.or_eq_true, Bool.and_eq_false_iff, Bool.or_eq_false_iff, Bool.not_eq_true', Bool.not_eq_false', ne_eq, Decidable.not_not] at hc57
          refine rg_text ?_
          refine x_val rfl rfl rfl (v_fieldAddr (off' := 1) Try.underlying46 rfl sz9 (by decide) rfl rfl) ?_
          refine x_store [] rfl rfl rfl rfl sz9 rfl (by show 2 ≤ 4; decide) ?_
          refine x_end ?_
          refine b_norm ?_
          exact c_norm ({fs[n] with ind := ⟨#[49]⟩}, Ss[n]) ⟨⟨⟨hgn.1.1, (by decide : (1 : Nat) ≤ 9223372036854775807), hgn.1.2.2⟩, hgn.2⟩, hsn, hszn, fun h => by omega⟩ (by repeat (first | exact Sub.nil | refine Sub.cons rfl ?_)) (fun _ h => by dsimp only; rw [List.set_getElem_self]; exact h)
        · simp only [hb58, decide_eq_true_eq, decide_eq_false_iff_not, Bool.and_eq_true, Bool.or_eq_true, Bool.and_eq_false_iff, Bool.or_eq_false_iff, Bool.not_eq_true', Bool.not_eq_false', ne_eq, Decidable.not_not] at hc57
          refine w_seq ?_
          refine rg_text ?_
          refine x_bool rfl rfl rfl (v_eql rfl rfl) ?_
          intro b61 hb61
          refine x_val rfl rfl rfl (v_assign rfl) ?_
          refine x_end ?_
          refine t_norm ?_
          refine w_cond rfl (fun hc60 => ?_) (fun hc60 => ?_)
          · simp only [hb61, decide_eq_true_eq, decide_eq_false_iff_not, Bool.and_eq_true, Bool.or_eq_true, Bool.and_eq_false_iff, Bool.or_eq_false_iff, Bool.not_eq_true', Bool.not_eq_false', ne_eq, Decidable.not_not] at hc60
            refine rg_text ?_
            refine x_val rfl rfl rfl (v_fieldAddr (off' := 2) Try.underlying46 rfl sz9 (by decide) rfl rfl) ?_
            refine x_store [] rfl rfl rfl rfl sz9 rfl (by show 3 ≤ 4; decide) ?_
            refine x_end ?_
            refine b_norm ?_
            exact c_norm ({fs[n] with data := ⟨#[120]⟩}, Ss[n]) ⟨⟨⟨hgn.1.1, hgn.1.2.1, (by decide : (1 : Nat) ≤ 9223372036854775807)⟩, hgn.2⟩, hsn, hszn, fun h => by omega⟩ (by repeat (first | exact Sub.nil | refine Sub.cons rfl ?_)) (fun _ h => by dsimp only; rw [List.set_getElem_self]; exact h)
          · simp only [hb61, decide_eq_true_eq, decide_eq_false_iff_not, Bool.and_eq_true, Bool.or_eq_true, Bool.and_eq_false_iff, Bool.or_eq_false_iff, Bool.not_eq_true', Bool.not_eq_false', ne_eq, Decidable.not_not] at hc60
            refine w_seq ?_
            refine rg_text ?_
            refine x_bool rfl rfl rfl (v_eql rfl rfl) ?_
            intro b64 hb64
            refine x_val rfl rfl rfl (v_assign rfl) ?_
            refine x_end ?_
            refine t_norm ?_
            refine w_cond rfl (fun hc63 => ?_) (fun hc63 => ?_)
            · simp only [hb64, decide_eq_true_eq, decide_eq_false_iff_not, Bool.and_eq_true, Bool.or_eq_true, Bool.and_eq_false_iff, Bool.or_eq_false_iff, Bool.not_eq_true', Bool.not_eq_false', ne_eq, Decidable.not_not] at hc63
              refine rg_text ?_
              refine x_val rfl rfl rfl (v_fieldAddr (off' := 3) Try.underlying46 rfl sz44 (by decide) rfl rfl) ?_
              refine x_store [] rfl rfl rfl rfl sz44 rfl (by show 4 ≤ 4; decide) ?_
              refine x_end ?_
              refine b_norm ?_
              exact c_norm ({fs[n] with subs := []}, none) ⟨⟨hgn.1, fun s hs => by cases hs⟩, rowOK_nil, ⟨hszn.1, Nat.zero_le _⟩, fun h => by omega⟩ (by repeat (first | exact Sub.nil | refine Sub.cons rfl ?_)) (fun _ h => by dsimp only; rw [subsO_set hnS]; refine h.less ?_ (fun _ h => h); rw [subsO_split hnS]; exact ((List.Sublist.refl _).append ((List.sublist_append_right _ _))).append (List.Sublist.refl _) |>.cons_cons _)
            · simp only [hb64, decide_eq_true_eq, decide_eq_false_iff_not, Bool.and_eq_true, Bool.or_eq_true, Bool.and_eq_false_iff, Bool.or_eq_false_iff, Bool.not_eq_true', Bool.not_eq_false', ne_eq, Decidable.not_not] at hc63
              refine w_seq ?_
              refine rg_text ?_
              refine x_bool rfl rfl rfl (v_eql rfl rfl) ?_
              intro b67 hb67
              refine x_val rfl rfl rfl (v_assign rfl) ?_
              refine x_end ?_
              refine t_norm ?_
              refine w_cond rfl (fun hc66 => ?_) (fun hc66 => ?_)
              · simp only [hb67, decide_eq_true_eq, decide_eq_false_iff_not, Bool.and_eq_true, Bool.or_eq_true, Bool.and_eq_false_iff, Bool.or_eq_false_iff, Bool.not_eq_true', Bool.not_eq_false', ne_eq, Decidable.not_not] at hc66
                refine rg_text ?_
                refine x_val rfl rfl rfl (v_fieldAddr (off' := 3) Try.underlying46 rfl sz44 (by decide) rfl rfl) ?_
                refine x_val rfl rfl rfl (v_load Try.underlying44 rfl rfl (by first | exact at_ownL (.head _) rfl | exact at_ownL (.tail _ (.head _)) rfl | exact at_ownL (.tail _ (.tail _ (.head _))) rfl | (apply at_ownL; ((repeat (first | exact List.Mem.head _ | apply List.Mem.tail | apply List.mem_append_right))); rfl) | (refine at_ro (by first | exact .head _ | exact .tail _ (.head _) | exact .tail _ (.tail _ (.head _)) | simp) ?_ (by assumption); trivial))) ?_
                refine x_val rfl rfl rfl (v_indexArr (j := 2) (off' := 2) Try.underlying29 sz3 rfl rfl (by first | omega | (dsimp only; omega)) rfl) ?_
                refine x_val rfl rfl rfl (v_load Try.underlying3 rfl rfl (by first | exact at_ownL (.head _) rfl | exact at_ownL (.tail _ (.head _)) rfl | exact at_ownL (.tail _ (.tail _ (.head _))) rfl | (apply at_ownL; ((repeat (first | exact List.Mem.head _ | apply List.Mem.tail | apply List.mem_append_right))); rfl) | (refine at_ro (by first | exact .head _ | exact .tail _ (.head _) | exact .tail _ (.tail _ (.head _)) | simp) ?_ (by assumption); trivial))) ?_
                obtain ⟨c8, hc8⟩ := u8_of q2
                refine x_val (v := Value.int .u8 (c8.toNat : Nat)) rfl rfl rfl (by rw [← hc8]; exact v_conv Try.underlying3 Try.underlying5 rfl) ?_
                refine x_val rfl rfl rfl (v_buildL (places := [(0, 1), (1, 1)]) Try.underlying48 zr48 (by kernel_rfl) rfl rfl) ?_
                refine x_buildSliceL rfl rfl rfl Try.underlying44 sz48 zr48 rfl rfl rfl ?_
                intro p74
                refine x_append (e := 48) ((p74, _) :: (p9, Obj.cells (flS (fs[n]) (Ss[n])).toArray 46) :: subsO (Ss.drop (n + 1))) (l2 := subsO (Ss.take n) ++ (rowO 46 (some (bR, cs, cap)) ++ [(p5, Obj.cells [Value.int .u8 kd, .int .u8 lv, rowV (some (bR, cs, cap)) (fs.length)].toArray 32), (p4, Obj.cells [Value.int .u8 0, .int .u8 0, .slice none 0 0].toArray 32), (p3, Obj.cells [Value.int .i64 q0, .int .i64 q1, .int .i64 q2].toArray 29), (p2, Obj.cells [Value.int .u8 kd, .int .u8 lv, .slice A1 fs.length c1].toArray 32)])) Ss[n] (len := fs[n].subs.length) (xs := fs[n].subs.flatMap sbC) rfl rfl rfl rfl (by rw [subsO_split hnS]; simp only [List.append_assoc, List.cons_append, List.nil_append]; rfl) hsn Try.underlying44 ap48 rfl rfl (m := 1) (news := sbC ⟨c8, ⟨#[121]⟩⟩) (fun i hi => at_ownL (vs := sbC ⟨c8, ⟨#[121]⟩⟩) (.head _) (by rw [Nat.zero_add]; exact List.getElem?_eq_getElem hi)) rfl (by simp only [maxLen]; omega) (by omega) ?_
                intro S' hS'
                refine x_val rfl rfl rfl (v_fieldAddr (off' := 3) Try.underlying46 rfl sz44 (by decide) rfl rfl) ?_
                refine x_store [(p74, _)] rfl rfl rfl rfl sz44 rfl (by show 4 ≤ 4; decide) ?_
                refine x_end ?_
                refine b_norm ?_
                exact c_norm ({fs[n] with subs := fs[n].subs ++ [⟨c8, ⟨#[121]⟩⟩]}, S') ⟨⟨hgn.1, fun s hs => by rcases List.mem_append.1 hs with hs | hs; (· exact hgn.2 s hs); rw [List.mem_singleton.1 hs]; exact (by decide : (1 : Nat) ≤ 9223372036854775807)⟩, by simpa using hS', ⟨hszn.1, by simp; omega⟩, fun h => by omega⟩ (by repeat (first | exact Sub.nil | refine Sub.cons rfl ?_)) (fun _ h => by dsimp only; rw [subsO_set hnS]; exact (h.less (own' := (p9, Obj.cells [Value.string fs[n].tag, .string fs[n].ind, .string fs[n].data, rowV S' (fs[n].subs.length + 1)].toArray 46) :: (subsO (Ss.drop (n + 1)) ++ rowO 48 S' ++ (subsO (Ss.take n) ++ (rowO 46 (some (bR, cs, cap)) ++ [(p5, Obj.cells [Value.int .u8 kd, .int .u8 lv, rowV (some (bR, cs, cap)) (fs.length)].toArray 32), (p4, Obj.cells [Value.int .u8 0, .int .u8 0, .slice none 0 0].toArray 32), (p3, Obj.cells [Value.int .i64 q0, .int .i64 q1, .int .i64 q2].toArray 29), (p2, Obj.cells [Value.int .u8 kd, .int .u8 lv, .slice A1 fs.length c1].toArray 32)])))) (List.sublist_cons_self _ _) (fun _ h => h)).to (by simp only [List.append_assoc, flS, List.length_append, List.length_cons, List.length_nil, Nat.zero_add]))
              · simp only [hb67, decide_eq_true_eq, decide_eq_false_iff_not, Bool.and_eq_true, Bool.or_eq_true, Bool.and_eq_false_iff, Bool.or_eq_false_iff, Bool.not_eq_true', Bool.not_eq_false', ne_eq, Decidable.not_not] at hc66
                refine w_seq ?_
                refine rg_text ?_
                refine x_bool rfl rfl rfl (v_eql rfl rfl) ?_
                intro b78 hb78
                refine x_val rfl rfl rfl (v_assign rfl) ?_
                refine x_end ?_
                refine t_norm ?_
                refine w_cond rfl (fun hc77 => ?_) (fun hc77 => ?_)
                · simp only [hb78, decide_eq_true_eq, decide_eq_false_iff_not, Bool.and_eq_true, Bool.or_eq_true, Bool.and_eq_false_iff, Bool.or_eq_false_iff, Bool.not_eq_true', Bool.not_eq_false', ne_eq, Decidable.not_not] at hc77
                  refine rg_text ?_
                  refine x_val rfl rfl rfl (v_indexArr (j := 2) (off' := 2) Try.underlying29 sz3 rfl rfl (by first | omega | (dsimp only; omega)) rfl) ?_
                  refine x_val rfl rfl rfl (v_load Try.underlying3 rfl rfl (by first | exact at_ownL (.head _) rfl | exact at_ownL (.tail _ (.head _)) rfl | exact at_ownL (.tail _ (.tail _ (.head _))) rfl | (apply at_ownL; ((repeat (first | exact List.Mem.head _ | apply List.Mem.tail | apply List.mem_append_right))); rfl) | (refine at_ro (by first | exact .head _ | exact .tail _ (.head _) | exact .tail _ (.tail _ (.head _)) | simp) ?_ (by assumption); trivial))) ?_
                  refine x_callv rfl rfl rfl Try.func29 (by kernel_rfl) rfl (fun w1 hw1 => c29 _ w1 hq2) ?_
                  refine x_val rfl rfl rfl (v_fieldAddr (off' := 0) Try.underlying46 rfl sz9 (by decide) rfl rfl) ?_
                  refine x_store [] rfl rfl rfl rfl sz9 rfl (by show 1 ≤ 4; decide) ?_
                  refine x_end ?_
                  refine b_norm ?_
                  exact c_norm ({fs[n] with tag := tagOf q2}, Ss[n]) ⟨⟨⟨by have := tagOf_ok q2; unfold okS; dsimp only; omega, hgn.1.2⟩, hgn.2⟩, hsn, ⟨by have := tagOf_ok q2; dsimp only; omega, hszn.2⟩, fun h => by omega⟩ (by repeat (first | exact Sub.nil | refine Sub.cons rfl ?_)) (fun _ h => by dsimp only; rw [List.set_getElem_self]; exact h)
                · simp only [hb78, decide_eq_true_eq, decide_eq_false_iff_not, Bool.and_eq_true, Bool.or_eq_true, Bool.and_eq_false_iff, Bool.or_eq_false_iff, Bool.not_eq_true', Bool.not_eq_false', ne_eq, Decidable.not_not] at hc77
                  refine w_seq ?_
                  refine rg_text ?_
                  refine x_bool rfl rfl rfl (v_eql rfl rfl) ?_
                  intro b84 hb84
                  refine x_val rfl rfl rfl (v_assign rfl) ?_
                  refine x_end ?_
                  refine t_norm ?_
                  refine w_cond rfl (fun hc83 => ?_) (fun hc83 => ?_)
                  · simp only [hb84, decide_eq_true_eq, decide_eq_false_iff_not, Bool.and_eq_true, Bool.or_eq_true, Bool.and_eq_false_iff, Bool.or_eq_false_iff, Bool.not_eq_true', Bool.not_eq_false', ne_eq, Decidable.not_not] at hc83
                    refine rg_text ?_
                    refine x_val rfl rfl rfl (v_indexArr (j := 2) (off' := 2) Try.underlying29 sz3 rfl rfl (by first | omega | (dsimp only; omega)) rfl) ?_
                    refine x_val rfl rfl rfl (v_load Try.underlying3 rfl rfl (by first | exact at_ownL (.head _) rfl | exact at_ownL (.tail _ (.head _)) rfl | exact at_ownL (.tail _ (.tail _ (.head _))) rfl | (apply at_ownL; ((repeat (first | exact List.Mem.head _ | apply List.Mem.tail | apply List.mem_append_right))); rfl) | (refine at_ro (by first | exact .head _ | exact .tail _ (.head _) | exact .tail _ (.tail _ (.head _)) | simp) ?_ (by assumption); trivial))) ?_
                    obtain ⟨c8, hc8⟩ := u8_of q2
                    refine x_val (v := Value.int .u8 (c8.toNat : Nat)) rfl rfl rfl (by rw [← hc8]; exact v_conv Try.underlying3 Try.underlying5 rfl) ?_
                    refine x_buildSliceL rfl rfl rfl Try.underlying65 sz5 zr5 rfl rfl rfl ?_
                    intro p88
                    refine x_val rfl rfl rfl (v_toStr [c8, 32] Try.underlying65 Try.underlying5 Try.underlying9 rfl rfl (fun j hj => at_ownL (vs := [Value.int .u8 c8.toNat, .int .u8 32]) (.head _) (by match j, hj with | 0, _ => rfl | 1, _ => rfl))) ?_
                    refine x_val rfl rfl rfl (v_fieldAddr (off' := 1) Try.underlying46 rfl sz9 (by decide) rfl rfl) ?_
                    refine x_store [(p88, _)] rfl rfl rfl rfl sz9 rfl (by show 2 ≤ 4; decide) ?_
                    refine x_end ?_
                    refine b_norm ?_
                    exact c_norm ({fs[n] with ind := ⟨#[c8, 32]⟩}, Ss[n]) ⟨⟨⟨hgn.1.1, (by decide : (2 : Nat) ≤ 9223372036854775807), hgn.1.2.2⟩, hgn.2⟩, hsn, hszn, fun h => by omega⟩ (by repeat (first | exact Sub.nil | refine Sub.cons rfl ?_)) (fun _ h => by dsimp only; rw [List.set_getElem_self]; exact h.less (List.sublist_cons_self _ _) (fun _ h => h))
                  · simp only [hb84, decide_eq_true_eq, decide_eq_false_iff_not, Bool.and_eq_true, Bool.or_eq_true, Bool.and_eq_false_iff, Bool.or_eq_false_iff, Bool.not_eq_true', Bool.not_eq_false', ne_eq, Decidable.not_not] at hc83
                    refine w_seq ?_
                    refine rg_text ?_
                    refine x_bool rfl rfl rfl (v_eql rfl rfl) ?_
                    intro b92 hb92
                    refine x_val rfl rfl rfl (v_assign rfl) ?_
                    refine x_end ?_
                    refine t_norm ?_
                    refine w_cond rfl (fun hc91 => ?_) (fun hc91 => ?_)
                    · simp only [hb92, decide_eq_true_eq, decide_eq_false_iff_not, Bool.and_eq_true, Bool.or_eq_true, Bool.and_eq_false_iff, Bool.or_eq_false_iff, Bool.not_eq_true', Bool.not_eq_false', ne_eq, Decidable.not_not] at hc91
                      refine rg_text ?_
                      refine x_val rfl rfl rfl (v_fieldAddr (off' := 0) Try.underlying46 rfl sz9 (by decide) rfl rfl) ?_
                      refine x_val rfl rfl rfl (v_load Try.underlying9 rfl rfl (by first | exact at_ownL (.head _) rfl | exact at_ownL (.tail _ (.head _)) rfl | exact at_ownL (.tail _ (.tail _ (.head _))) rfl | (apply at_ownL; ((repeat (first | exact List.Mem.head _ | apply List.Mem.tail | apply List.mem_append_right))); rfl) | (refine at_ro (by first | exact .head _ | exact .tail _ (.head _) | exact .tail _ (.tail _ (.head _)) | simp) ?_ (by assumption); trivial))) ?_
                      refine x_val rfl rfl rfl (v_sadd rfl rfl (by show fs[n].tag.size + 1 ≤ _; omega)) ?_
                      refine x_val rfl rfl rfl (v_fieldAddr (off' := 0) Try.underlying46 rfl sz9 (by decide) rfl rfl) ?_
                      refine x_store [] rfl rfl rfl rfl sz9 rfl (by show 1 ≤ 4; decide) ?_
                      refine x_end ?_
                      refine b_norm ?_
                      exact c_norm ({fs[n] with tag := fs[n].tag ++ ⟨#[48]⟩}, Ss[n]) ⟨⟨⟨by unfold okS; dsimp only; rw [ByteArray.size_append]; show _ + 1 ≤ _; omega, hgn.1.2⟩, hgn.2⟩, hsn, ⟨by dsimp only; rw [ByteArray.size_append]; show _ + 1 ≤ _; omega, hszn.2⟩, fun h => by omega⟩ (by repeat (first | exact Sub.nil | refine Sub.cons rfl ?_)) (fun _ h => by dsimp only; rw [List.set_getElem_self]; exact h)
                    · simp only [hb92, decide_eq_true_eq, decide_eq_false_iff_not, Bool.and_eq_true, Bool.or_eq_true, Bool.and_eq_false_iff, Bool.or_eq_false_iff, Bool.not_eq_true', Bool.not_eq_false', ne_eq, Decidable.not_not] at hc91
                      refine w_skip ?_
                      refine b_norm ?_
                      exact c_norm (fs[n], Ss[n]) ⟨hgn, hsn, hszn, fun _ => rfl⟩ (by repeat (first | exact Sub.nil | refine Sub.cons rfl ?_)) (fun _ h => by dsimp only; rw [List.set_getElem_self]; exact h)
      · rintro ⟨g, S⟩ ⟨hg, hgs, hsz, h7⟩
        refine w_state ([(4, .pointer (some ⟨p4, 0, none⟩)), (5, .pointer (some ⟨p5, 0, none⟩)), (8, Value.int .i64 (q1 % (fs.length : Nat))), (9, .pointer (some ⟨p9, 0, none⟩))]) ((p9, Obj.cells (flS (g) (S)).toArray 46) :: (subsO (Ss.set n (S)) ++ (rowO 46 (some (bR, cs, cap)) ++ [(p5, Obj.cells [Value.int .u8 kd, .int .u8 lv, rowV (some (bR, cs, cap)) (fs.length)].toArray 32), (p4, Obj.cells [Value.int .u8 0, .int .u8 0, .slice none 0 0].toArray 32), (p3, Obj.cells [Value.int .i64 q0, .int .i64 q1, .int .i64 q2].toArray 29), (p2, Obj.cells [Value.int .u8 kd, .int .u8 lv, .slice A1 fs.length c1].toArray 32)]))) ([(w, fun _ => True)]) ?_
        dsimp only at hg hgs hsz h7
        refine w_seq ?_
        refine rg_text ?_
        refine x_val rfl rfl rfl (v_fieldAddr (off' := 2) Try.underlying32 rfl sz30 (by decide) rfl rfl) ?_
        refine x_val rfl rfl rfl (v_load Try.underlying30 rfl rfl (by first | exact at_ownL (.head _) rfl | exact at_ownL (.tail _ (.head _)) rfl | exact at_ownL (.tail _ (.tail _ (.head _))) rfl | (apply at_ownL; ((repeat (first | exact List.Mem.head _ | apply List.Mem.tail | apply List.mem_append_right))); rfl) | (refine at_ro (by first | exact .head _ | exact .tail _ (.head _) | exact .tail _ (.tail _ (.head _)) | simp) ?_ (by assumption); trivial))) ?_
        refine x_val rfl rfl rfl (v_move rfl) ?_
        refine x_val rfl rfl rfl (v_load_blk (e := 46) (fz := (0, 0)) (cs := (flS g S).toArray) Try.underlying46 rfl rfl (.head _) (by exact sz46)) ?_
        refine x_val rfl rfl rfl (v_indexAddr (j := n) (off' := n * 4) Try.underlying30 sz46 rfl (congrArg (fun z : Int => some (Value.int .i64 z)) hn) hnl (Nat.zero_add _)) ?_
        refine x_store ((p9, Obj.cells (flS (g) (S)).toArray 46) :: subsO (Ss.set n S)) (l2 := [(p5, Obj.cells [Value.int .u8 kd, .int .u8 lv, rowV (some (bR, cs, cap)) (fs.length)].toArray 32), (p4, Obj.cells [Value.int .u8 0, .int .u8 0, .slice none 0 0].toArray 32), (p3, Obj.cells [Value.int .i64 q0, .int .i64 q1, .int .i64 q2].toArray 29), (p2, Obj.cells [Value.int .u8 kd, .int .u8 lv, .slice A1 fs.length c1].toArray 32)]) (cs := cs) (e := 46) rfl rfl rfl rfl sz46 rfl (by omega) ?_
        refine x_end ?_
        refine t_norm ?_
        refine w_seq ?_
        refine rg_text ?_
        refine x_val rfl rfl rfl (v_load_blk (e := 32) (fz := (0, 0)) (cs := [Value.int .u8 kd, .int .u8 lv, rowV (some (bR, cs, cap)) fs.length].toArray) Try.underlying32 rfl rfl (List.mem_append_right _ (.tail _ (.head _))) (by exact sz32)) ?_
        refine x_store0 ((p9, Obj.cells (flS (g) (S)).toArray 46) :: (subsO (Ss.set n S) ++ (rowO 46 (some (bR, cs.take (n * 4) ++ flS g S ++ cs.drop (n * 4 + 4), cap)) ++ [(p5, Obj.cells [Value.int .u8 kd, .int .u8 lv, rowV (some (bR, cs, cap)) (fs.length)].toArray 32)]))) (l2 := [(p3, Obj.cells [Value.int .i64 q0, .int .i64 q1, .int .i64 q2].toArray 29), (p2, Obj.cells [Value.int .u8 kd, .int .u8 lv, .slice A1 fs.length c1].toArray 32)]) (cs := #[Value.int .u8 0, .int .u8 0, .slice none 0 0]) (e := 32) rfl rfl rfl (show ((p9, Obj.cells (flS (g) (S)).toArray 46) :: subsO (Ss.set n S)) ++ (_ :: [(p5, Obj.cells [Value.int .u8 kd, .int .u8 lv, rowV (some (bR, cs, cap)) (fs.length)].toArray 32), (p4, Obj.cells [Value.int .u8 0, .int .u8 0, .slice none 0 0].toArray 32), (p3, Obj.cells [Value.int .i64 q0, .int .i64 q1, .int .i64 q2].toArray 29), (p2, Obj.cells [Value.int .u8 kd, .int .u8 lv, .slice A1 fs.length c1].toArray 32)]) = _ from by simp only [List.append_assoc, List.cons_append, List.nil_append]; rfl) sz32 rfl rfl ?_
        refine x_end ?_
        refine t_norm ?_
        refine w_ret ?_
        refine retc rfl rfl (List.mem_append_right _ (.head _)) Try.underlying32 rfl sz32 (fun w' hm => ⟨some (bR, cs.take (n * 4) ++ flS g S ++ cs.drop (n * 4 + 4), cap), Ss.set n S, fs.set n g, by rw [List.length_set]; rfl, hm.base (by simp), hd.set hnl hgs hg, hm.less (((List.sublist_append_left (subsO (Ss.set n S) ++ rowO 46 (some (bR, cs.take (n * 4) ++ flS g S ++ cs.drop (n * 4 + 4), cap))) [(p5, Obj.cells [Value.int .u8 kd, .int .u8 lv, rowV (some (bR, cs, cap)) (fs.length)].toArray 32)]).trans (by rw [List.append_assoc]; exact List.Sublist.refl _)).cons _ |>.trans (List.sublist_append_left _ _)) (fun _ h => h), by simp, fun f hf => ?_, fun h => by rw [h7 h, List.set_getElem_self]⟩)
        rcases List.mem_or_eq_of_mem_set hf with hf | rfl
        · have := hsm f hf; omega
        · exact hsz

end Go.Proofs.Ytmihkbciilloaaa
