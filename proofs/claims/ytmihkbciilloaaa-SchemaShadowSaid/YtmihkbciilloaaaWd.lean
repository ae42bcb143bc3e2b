import Derived.Test.YtmihkbciilloaaaWc
namespace Go.Proofs.Ytmihkbciilloaaa
open Go.RowKit Go.PK
set_option linter.unusedVariables false
set_option linter.unusedSimpArgs false
theorem c51 {v : Value} {n : Nat} (r : Rl) {f : Fl} {B : Option Addr} {c : Nat} {D : Nat → Prop} (w : World) (hf : FAt w v n f B c) (hs : sliceRd tySb D w (.slice B f.subs.length c) f.subs) :
    Calls Try.prog 51 #[.agg #[v, .int .i64 (n : Nat), .string r.tag, .bool r.must, .bool r.once, .string r.i0, .string r.i1, .string r.codes, .string r.single]] w fun e w' => e = .returned (.bool (dup r.single f.subs)) ∧ Later w w' := by
  obtain ⟨B0, c0, hB0, hlc, hmx, hB⟩ := hs
  injection hB0 with e1 e2 e3
  subst e1 e3
  clear e2
  refine enter (vs := [.agg #[v, .int .i64 (n : Nat), .string r.tag, .bool r.must, .bool r.once, .string r.i0, .string r.i1, .string r.codes, .string r.single]]) Try.func51 rfl Try.ntmps51 rfl ?_
  refine w_seq ?_
  refine rg_text ?_
  refine x_box rfl rfl rfl rfl ?_
  intro p1
  refine x_val rfl rfl rfl (v_assign rfl) ?_
  refine x_end ?_
  refine t_norm ?_
  refine w_seq ?_
  refine rg_text ?_
  refine x_alloc rfl rfl rfl zr88 ?_
  intro p3
  refine x_end ?_
  refine t_norm ?_
  refine w_seq ?_
  refine w_seq ?_
  refine rg_text ?_
  refine x_val rfl rfl rfl (v_load_blk Try.underlying77 rfl rfl (by first | exact .head _ | exact .tail _ (.head _) | exact .tail _ (.tail _ (.head _)) | (repeat (first | exact List.Mem.head _ | apply List.Mem.tail | apply List.mem_append_right))) (by exact sz77)) ?_
  refine x_callv rfl rfl rfl Try.func44 (by kernel_rfl) rfl (fun w1 hw1 => c44 r w1 (hf.later (hw1.base (by simp)))) ?_
  refine x_val rfl rfl rfl (v_field Try.underlying46 rfl Try.underlying44 rfl rfl rfl) ?_
  refine x_val rfl rfl rfl (v_len_slice Try.underlying44 rfl) ?_
  refine x_val rfl rfl rfl (v_move rfl) ?_
  refine x_end ?_
  refine t_norm ?_
  refine w_block ?_
  refine w_loop (σ := Nat × List Bool) (fun x => x.1 ≤ f.subs.length ∧ x.2.length = 256 ∧ (∀ c, c < 256 → x.2[c]? = some (decide (∃ j, j < x.1 ∧ (cdAt f.subs j).toNat = c))) ∧ (∀ j, j < x.1 → ¬ dupAt r.single f.subs j)) (fun x => [(1, .pointer (some ⟨p1, 0, none⟩)), (3, .pointer (some ⟨p3, 0, none⟩)), (8, .slice B f.subs.length c), (9, .int .i64 f.subs.length), (10, .int .i64 (x.1 : Nat))]) (fun x => [(p3, .cells (x.2.map Value.bool).toArray 88), (p1, .cells (plC v n r).toArray 77)]) (fun x => [(w, fun _ => True)]) (fun x => f.subs.length - x.1) ((0, List.replicate 256 false)) (⟨Nat.zero_le _, List.length_replicate, seen_init _ rfl, by intros; omega⟩) (l_start (by repeat (first | exact Sub.nil | refine Sub.cons rfl ?_)) (fun w1 h => by dsimp only; rw [List.map_replicate]; exact h)) ?_
  rintro ⟨k, bs⟩ ⟨hk, hbl, hseen, hno⟩
  dsimp only at hk hbl hseen hno
  refine w_seq ?_
  refine rg_text ?_
  refine x_bool rfl rfl rfl (v_lss rfl rfl) ?_
  intro b11 hb11
  refine x_end ?_
  refine t_norm ?_
  refine w_seq ?_
  refine w_cond rfl (fun hc11 => ?_) (fun hc11 => ?_)
  · simp only [hb11, decide_eq_true_eq, decide_eq_false_iff_not, Bool.and_eq_true, Bool.or_eq_true, Bool.and_eq_false_iff, Bool.or_eq_false_iff, Bool.not_eq_true', Bool.not_eq_false', ne_eq, Decidable.not_not] at hc11
    have hkl : k < f.subs.length := by omega
    obtain ⟨b, off, rfl, hD, hb, hcell⟩ := hB (by omega)
    obtain ⟨cs, hcs, hrd, hok⟩ := hcell k hkl
    subst hrd
    have hcd : cdAt f.subs k = f.subs[k].code := cdAt_eq hkl
    have hlt := UInt8.toNat_lt f.subs[k].code
    refine w_skip ?_
    refine t_norm ?_
    refine w_seq ?_
    refine w_block ?_
    refine w_seq ?_
    refine rg_text ?_
    refine x_val rfl rfl rfl (v_indexAddr Try.underlying44 sz48 rfl rfl (by first | omega | (dsimp only; omega)) rfl) ?_
    refine x_val rfl rfl rfl (v_loadN (vs := [.int .u8 f.subs[k].code.toNat, .string f.subs[k].text]) Try.underlying48 rfl sz48 rfl (fun i hi => at_ro (.head _) trivial (hcs i hi))) ?_
    refine x_alloc rfl rfl rfl zr48 ?_
    intro p5
    refine x_store0 [] rfl rfl rfl rfl sz48 rfl rfl ?_
    refine x_end ?_
    refine t_norm ?_
    refine w_seq ?_
    refine w_seq ?_
    refine rg_text ?_
    refine x_val rfl rfl rfl (v_fieldAddr (off' := 0) Try.underlying48 rfl sz5 (by decide) rfl rfl) ?_
    refine x_val rfl rfl rfl (v_load Try.underlying5 rfl rfl (by first | exact at_ownL (.head _) rfl | exact at_ownL (.tail _ (.head _)) rfl | exact at_ownL (.tail _ (.tail _ (.head _))) rfl | (apply at_ownL; ((repeat (first | exact List.Mem.head _ | apply List.Mem.tail | apply List.mem_append_right))); rfl) | (refine at_ro (by first | exact .head _ | exact .tail _ (.head _) | exact .tail _ (.tail _ (.head _)) | simp) ?_ (by assumption); trivial))) ?_
    refine x_val rfl rfl rfl (v_indexArr Try.underlying88 sz4 rfl rfl (by omega) rfl) ?_
    refine x_bool rfl rfl rfl (v_load Try.underlying4 rfl rfl (at_ownL (.tail _ (.head _)) (by rw [List.getElem?_map, Nat.zero_add, Nat.mul_one, hseen _ hlt]; rfl))) ?_
    intro b17 hb17
    refine x_val rfl rfl rfl (v_move rfl) ?_
    refine x_if [] rfl rfl rfl rfl rfl (fun hg => by obtain ⟨hg0, _⟩ := hg; subst hg0; (try simp only [List.cons_append, List.nil_append, gvl_nil, gvl_t, gvl_f]); exact v_fieldAddr (off' := 2) Try.underlying77 rfl sz27 (by decide) rfl rfl) ?_
    refine x_if [] rfl rfl rfl rfl rfl (fun hg => by obtain ⟨hg0, _⟩ := hg; subst hg0; (try simp only [List.cons_append, List.nil_append, gvl_nil, gvl_t, gvl_f]); exact v_fieldAddr (off' := 8) Try.underlying27 rfl sz9 (by decide) rfl rfl) ?_
    refine x_if [] rfl rfl rfl rfl rfl (fun hg => by obtain ⟨hg0, _⟩ := hg; subst hg0; (try simp only [List.cons_append, List.nil_append, gvl_nil, gvl_t, gvl_f]); exact v_load Try.underlying9 rfl rfl (by first | exact at_ownL (.head _) rfl | exact at_ownL (.tail _ (.head _)) rfl | exact at_ownL (.tail _ (.tail _ (.head _))) rfl | (apply at_ownL; ((repeat (first | exact List.Mem.head _ | apply List.Mem.tail | apply List.mem_append_right))); rfl) | (refine at_ro (by first | exact .head _ | exact .tail _ (.head _) | exact .tail _ (.tail _ (.head _)) | simp) ?_ (by assumption); trivial))) ?_
    refine x_if [] rfl rfl rfl rfl rfl (fun hg => by obtain ⟨hg0, _⟩ := hg; subst hg0; (try simp only [List.cons_append, List.nil_append, gvl_nil, gvl_t, gvl_f]); exact v_fieldAddr (off' := 0) Try.underlying48 rfl sz5 (by decide) rfl rfl) ?_
    refine x_if [] rfl rfl rfl rfl rfl (fun hg => by obtain ⟨hg0, _⟩ := hg; subst hg0; (try simp only [List.cons_append, List.nil_append, gvl_nil, gvl_t, gvl_f]); exact v_load Try.underlying5 rfl rfl (by first | exact at_ownL (.head _) rfl | exact at_ownL (.tail _ (.head _)) rfl | exact at_ownL (.tail _ (.tail _ (.head _))) rfl | (apply at_ownL; ((repeat (first | exact List.Mem.head _ | apply List.Mem.tail | apply List.mem_append_right))); rfl) | (refine at_ro (by first | exact .head _ | exact .tail _ (.head _) | exact .tail _ (.tail _ (.head _)) | simp) ?_ (by assumption); trivial))) ?_
    refine x_call_if [] rfl rfl rfl rfl rfl Try.func50 (by kernel_rfl) (fun hg => by obtain ⟨hg0, _⟩ := hg; subst hg0; (try simp only [List.cons_append, List.nil_append, gvl_nil, gvl_t, gvl_f]); refine ⟨_, rfl, ?_⟩; exact fun w1 hw1 => c50 _ _ w1) ?_
    refine x_ifb [] rfl rfl rfl rfl rfl (fun hg => by obtain ⟨hg0, _⟩ := hg; subst hg0; (try simp only [List.cons_append, List.nil_append, gvl_nil, gvl_t, gvl_f]); exact v_geq rfl rfl) ?_
    intro b25 hb25
    refine x_bool rfl rfl rfl (v_and rfl rfl) ?_
    intro b26 hb26
    refine x_end ?_
    refine t_norm ?_
    refine w_cond rfl (fun hc26 => ?_) (fun hc26 => ?_)
    · simp only [hb26, hb25, hb17, decide_eq_true_eq, decide_eq_false_iff_not, Bool.and_eq_true, Bool.or_eq_true, Bool.and_eq_false_iff, Bool.or_eq_false_iff, Bool.not_eq_true', Bool.not_eq_false', ne_eq, Decidable.not_not] at hc26
      rw [firstIdx_nn] at hc26
      refine w_seq ?_
      refine rg_text ?_
      refine x_val rfl rfl rfl (v_assign rfl) ?_
      refine x_end ?_
      refine t_norm ?_
      refine w_ret ?_
      refine t_ret ?_
      refine b_ret ?_
      refine t_ret ?_
      refine t_ret ?_
      refine b_ret ?_
      refine t_ret ?_
      refine ret1 rfl rfl (fun w' hm => ⟨?_, hm.base (by simp)⟩)
      rw [dup_yes hkl (show dupAt r.single f.subs k from dupAt_mk hcd hc26)]
    · simp only [hb26, hb25, hb17, decide_eq_true_eq, decide_eq_false_iff_not, Bool.and_eq_true, Bool.or_eq_true, Bool.and_eq_false_iff, Bool.or_eq_false_iff, Bool.not_eq_true', Bool.not_eq_false', ne_eq, Decidable.not_not] at hc26
      rw [firstIdx_nn] at hc26
      refine w_skip ?_
      refine t_norm ?_
      refine rg_text ?_
      refine x_val rfl rfl rfl (v_fieldAddr (off' := 0) Try.underlying48 rfl sz5 (by decide) rfl rfl) ?_
      refine x_val rfl rfl rfl (v_load Try.underlying5 rfl rfl (by first | exact at_ownL (.head _) rfl | exact at_ownL (.tail _ (.head _)) rfl | exact at_ownL (.tail _ (.tail _ (.head _))) rfl | (apply at_ownL; ((repeat (first | exact List.Mem.head _ | apply List.Mem.tail | apply List.mem_append_right))); rfl) | (refine at_ro (by first | exact .head _ | exact .tail _ (.head _) | exact .tail _ (.tail _ (.head _)) | simp) ?_ (by assumption); trivial))) ?_
      refine x_val rfl rfl rfl (v_indexArr Try.underlying88 sz4 rfl rfl (by omega) rfl) ?_
      refine x_store [_] rfl rfl rfl rfl sz4 rfl (by rw [List.length_map]; show 0 + _ + 1 ≤ bs.length; omega) ?_
      refine x_end ?_
      refine b_norm ?_
      refine t_norm ?_
      refine rg_text ?_
      refine x_val rfl rfl rfl (v_addi rfl rfl rfl (by first | omega | (dsimp only; omega))) ?_
      refine x_val rfl rfl rfl (v_move rfl) ?_
      refine x_end ?_
      exact l_norm (k + 1, bs.set f.subs[k].code.toNat true) ⟨by omega, by simp [hbl], seen_set hcd hbl hseen, snoc_all hno (fun h => hc26 |> dupAt_not hcd h)⟩ (by simp only; omega) (by repeat (first | exact Sub.nil | refine Sub.cons rfl ?_)) (fun w1 h => by have h := h.less (List.sublist_cons_self _ _) (fun _ h => h); rw [cells_set (show _ < bs.length by omega)] at h; exact h)
  · simp only [hb11, decide_eq_true_eq, decide_eq_false_iff_not, Bool.and_eq_true, Bool.or_eq_true, Bool.and_eq_false_iff, Bool.or_eq_false_iff, Bool.not_eq_true', Bool.not_eq_false', ne_eq, Decidable.not_not] at hc11
    refine w_exit ?_
    refine t_exit ?_
    refine t_exit ?_
    refine b_hit ?_
    refine t_norm ?_
    refine w_seq ?_
    refine rg_text ?_
    refine x_val rfl rfl rfl (v_assign rfl) ?_
    refine x_end ?_
    refine t_norm ?_
    refine w_ret ?_
    refine ret1 rfl rfl (fun w' hm => ⟨?_, hm.base (by simp)⟩)
    rw [dup_no (fun j hj => hno j (by omega))]

end Go.Proofs.Ytmihkbciilloaaa
