import Derived.Test.YtmihkbciilloaaaWb
namespace Go.Proofs.Ytmihkbciilloaaa
open Go.RowKit Go.PK
set_option linter.unusedVariables false
set_option linter.unusedSimpArgs false
theorem c42 {v : Value} {xs : List Fl} {p : Fl → Bool} {fk : FuncId} {g : Func} {cap : Array Value} {D : Nat → Prop} (w : World) (hxs : sliceRd tyFl D w v xs) (hg : Try.prog.funcs[fk]? = some g) (hgb : (!(g.name == "runtime.NumGoroutine") && g.body.isSome) = true) (hp : ∀ w1, Later w w1 → ∀ vs x, x ∈ xs → tyFl.rd (fun _ => True) w1 vs x → Calls Try.prog fk (#[.agg vs.toArray] ++ cap) w1 fun e w2 => e = .returned (.bool (p x)) ∧ Later w1 w2) :
    Calls Try.prog 42 #[v, .func (.func fk) #[] cap] w fun e w' => e = .returned (.bool (xs.any p)) ∧ Later w w' := by
  refine enter (vs := [v, .func (.func fk) #[] cap]) Try.func42 rfl Try.ntmps42 rfl ?_
  refine w_seq ?_
  refine rg_text ?_
  refine x_val rfl rfl rfl (v_assign rfl) ?_
  refine x_end ?_
  refine t_norm ?_
  refine w_seq ?_
  refine rg_text ?_
  refine x_val rfl rfl rfl (v_move rfl) ?_
  refine x_val rfl rfl rfl (v_move rfl) ?_
  refine x_callv rfl rfl rfl Try.func55 (by kernel_rfl) rfl (fun w1 hw1 => c55 w1 (hxs.keep (Kept.later (hw1.base (by simp)))) hg hgb (fun w2 hl => hp w2 ((hw1.base (by simp)).trans hl))) ?_
  refine x_bool rfl rfl rfl (v_geq rfl rfl) ?_
  intro b8 hb8
  refine x_val rfl rfl rfl (v_assign rfl) ?_
  refine x_end ?_
  refine t_norm ?_
  refine w_ret ?_
  refine ret1 rfl rfl (fun w' hm => ⟨?_, hm.base (by simp)⟩)
  rw [hb8, Bool.eq_iff_iff.2 (decide_eq_true_iff.trans (fidx_nn p xs))]
theorem c48 {v : Value} {xs : List Sb} {p : Sb → Bool} {fk : FuncId} {g : Func} {cap : Array Value} {D : Nat → Prop} (w : World) (hxs : sliceRd tySb D w v xs) (hg : Try.prog.funcs[fk]? = some g) (hgb : (!(g.name == "runtime.NumGoroutine") && g.body.isSome) = true) (hp : ∀ w1, Later w w1 → ∀ vs x, x ∈ xs → tySb.rd (fun _ => True) w1 vs x → Calls Try.prog fk (#[.agg vs.toArray] ++ cap) w1 fun e w2 => e = .returned (.bool (p x)) ∧ Later w1 w2) :
    Calls Try.prog 48 #[v, .func (.func fk) #[] cap] w fun e w' => e = .returned (.bool (xs.any p)) ∧ Later w w' := by
  refine enter (vs := [v, .func (.func fk) #[] cap]) Try.func48 rfl Try.ntmps48 rfl ?_
  refine w_seq ?_
  refine rg_text ?_
  refine x_val rfl rfl rfl (v_assign rfl) ?_
  refine x_end ?_
  refine t_norm ?_
  refine w_seq ?_
  refine rg_text ?_
  refine x_val rfl rfl rfl (v_move rfl) ?_
  refine x_val rfl rfl rfl (v_move rfl) ?_
  refine x_callv rfl rfl rfl Try.func57 (by kernel_rfl) rfl (fun w1 hw1 => c57 w1 (hxs.keep (Kept.later (hw1.base (by simp)))) hg hgb (fun w2 hl => hp w2 ((hw1.base (by simp)).trans hl))) ?_
  refine x_bool rfl rfl rfl (v_geq rfl rfl) ?_
  intro b8 hb8
  refine x_val rfl rfl rfl (v_assign rfl) ?_
  refine x_end ?_
  refine t_norm ?_
  refine w_ret ?_
  refine ret1 rfl rfl (fun w' hm => ⟨?_, hm.base (by simp)⟩)
  rw [hb8, Bool.eq_iff_iff.2 (decide_eq_true_iff.trans (fidx_nn p xs))]
theorem c36 {v : Value} {rs : List Rl} {D : Nat → Prop} (tag : ByteArray) (w : World) (hrs : sliceRd tyRl D w v rs) (ht : okS tag) :
    Calls Try.prog 36 #[v, .string tag] w fun e w' => e = .returned (.int .i64 (fidx (fun r => mtc r.tag tag) rs)) ∧ Later w w' := by
  refine enter (vs := [v, .string tag]) Try.func36 rfl Try.ntmps36 rfl ?_
  refine w_seq ?_
  refine rg_text ?_
  refine x_box rfl rfl rfl rfl ?_
  intro p3
  refine x_val rfl rfl rfl (v_assign rfl) ?_
  refine x_end ?_
  refine t_norm ?_
  refine w_seq ?_
  refine rg_text ?_
  refine x_val rfl rfl rfl (v_move rfl) ?_
  refine x_val rfl rfl rfl (v_func rfl) ?_
  refine x_callv rfl rfl rfl Try.func52 (by kernel_rfl) rfl (fun w1 hw1 => c52 w1 (hrs.keep (Kept.later (hw1.base (by simp)))) Try.func53 (by kernel_rfl) (fun w2 hl vs x hx hrd => by obtain ⟨rfl, hok⟩ := hrd; exact c53 x tag p3 w2 hok.1 ht ((hw1.later hl).cell_own (.head _) 0))) ?_
  refine x_val rfl rfl rfl (v_assign rfl) ?_
  refine x_end ?_
  refine t_norm ?_
  refine w_ret ?_
  refine ret1 rfl rfl (fun w' hm => ⟨?_, hm.base (by simp)⟩)
  rfl
theorem c44 {v : Value} {n : Nat} (r : Rl) {f : Fl} {B : Option Addr} {c : Nat} (w : World) (hf : FAt w v n f B c) :
    Calls Try.prog 44 #[.agg #[v, .int .i64 (n : Nat), .string r.tag, .bool r.must, .bool r.once, .string r.i0, .string r.i1, .string r.codes, .string r.single]] w fun e w' => e = .returned (.agg #[.string f.tag, .string f.ind, .string f.data, .slice B f.subs.length c]) ∧ Later w w' := by
  obtain ⟨b, off, len, cap, rfl, hn, hlen, hcs⟩ := hf.ex
  refine enter (vs := [.agg #[.slice (some ⟨b, off, none⟩) len cap, .int .i64 (n : Nat), .string r.tag, .bool r.must, .bool r.once, .string r.i0, .string r.i1, .string r.codes, .string r.single]]) Try.func44 rfl Try.ntmps44 rfl ?_
  refine w_seq ?_
  refine rg_text ?_
  refine x_box rfl rfl rfl rfl ?_
  intro p1
  refine x_alloc rfl rfl rfl zr46 ?_
  intro p2
  refine x_end ?_
  refine t_norm ?_
  refine w_seq ?_
  refine rg_text ?_
  refine x_val rfl rfl rfl (v_fieldAddr (off' := 0) Try.underlying77 rfl sz30 (by decide) rfl rfl) ?_
  refine x_val rfl rfl rfl (v_load Try.underlying30 rfl rfl (by first | exact at_ownL (.head _) rfl | exact at_ownL (.tail _ (.head _)) rfl | exact at_ownL (.tail _ (.tail _ (.head _))) rfl | (apply at_ownL; ((repeat (first | exact List.Mem.head _ | apply List.Mem.tail | apply List.mem_append_right))); rfl) | (refine at_ro (by first | exact .head _ | exact .tail _ (.head _) | exact .tail _ (.tail _ (.head _)) | simp) ?_ (by assumption); trivial))) ?_
  refine x_val rfl rfl rfl (v_fieldAddr (off' := 1) Try.underlying77 rfl sz3 (by decide) rfl rfl) ?_
  refine x_val rfl rfl rfl (v_load Try.underlying3 rfl rfl (by first | exact at_ownL (.head _) rfl | exact at_ownL (.tail _ (.head _)) rfl | exact at_ownL (.tail _ (.tail _ (.head _))) rfl | (apply at_ownL; ((repeat (first | exact List.Mem.head _ | apply List.Mem.tail | apply List.mem_append_right))); rfl) | (refine at_ro (by first | exact .head _ | exact .tail _ (.head _) | exact .tail _ (.tail _ (.head _)) | simp) ?_ (by assumption); trivial))) ?_
  refine x_val rfl rfl rfl (v_indexAddr Try.underlying30 sz46 rfl rfl (by first | omega | (dsimp only; omega)) rfl) ?_
  refine x_val rfl rfl rfl (v_loadN (vs := flC f B c) Try.underlying46 rfl sz46 rfl (fun i hi => at_ro (.head _) trivial (hcs i hi))) ?_
  refine x_store0 [] rfl rfl rfl rfl sz46 rfl rfl ?_
  refine x_end ?_
  refine t_norm ?_
  refine w_ret ?_
  refine retc rfl rfl (.head _) Try.underlying46 rfl sz46 (fun w' hm => ⟨rfl, hm.base (by simp)⟩)
theorem c43 {v : Value} {n : Nat} {q : Nat} (r : Rl) {f g : Fl} {B C : Option Addr} {c d : Nat} (w : World) (hq : PAt w q v n r) (hf : FAt w v n f B c) :
    Calls Try.prog 43 #[.agg #[.string g.tag, .string g.ind, .string g.data, .slice C g.subs.length d], .pointer (some ⟨q, 0, none⟩)] w fun e w' => e = .returned (.bool (decide (g.tag = f.tag))) ∧ Later w w' := by
  refine enter (vs := [.agg #[.string g.tag, .string g.ind, .string g.data, .slice C g.subs.length d], .pointer (some ⟨q, 0, none⟩)]) Try.func43 rfl Try.ntmps43 rfl ?_
  refine w_seq ?_
  refine rg_text ?_
  refine x_box rfl rfl rfl rfl ?_
  intro p2
  refine x_val rfl rfl rfl (v_assign rfl) ?_
  refine x_end ?_
  refine t_norm ?_
  refine w_seq ?_
  refine rg_draw 7 [(true, 0), (true, 1), (true, 2), (true, 3), (true, 4), (true, 5), (true, 6)] (by kernel_rfl) (by kernel_rfl) ?_
  refine x_val rfl rfl rfl (v_fieldAddr (off' := 0) Try.underlying46 rfl sz9 (by decide) rfl rfl) ?_
  refine x_val rfl rfl rfl (v_load Try.underlying9 rfl rfl (by first | exact at_ownL (.head _) rfl | exact at_ownL (.tail _ (.head _)) rfl | exact at_ownL (.tail _ (.tail _ (.head _))) rfl | (apply at_ownL; ((repeat (first | exact List.Mem.head _ | apply List.Mem.tail | apply List.mem_append_right))); rfl) | (refine at_ro (by first | exact .head _ | exact .tail _ (.head _) | exact .tail _ (.tail _ (.head _)) | simp) ?_ (by assumption); trivial))) ?_
  refine x_val rfl rfl rfl (v_loadN (vs := plC v n r) Try.underlying77 rfl sz77 rfl (fun i hi => at_ro (.head _) trivial (by rw [Nat.zero_add]; exact hq i hi))) ?_
  refine x_callv rfl rfl rfl Try.func44 (by kernel_rfl) rfl (fun w1 hw1 => c44 r w1 (hf.later (hw1.base (by simp)))) ?_
  refine x_val rfl rfl rfl (v_field Try.underlying46 rfl Try.underlying9 rfl rfl rfl) ?_
  refine x_bool rfl rfl rfl (v_seql rfl rfl) ?_
  intro b9 hb9
  refine x_val rfl rfl rfl (v_assign rfl) ?_
  refine x_end ?_
  refine t_norm ?_
  refine w_ret ?_
  refine ret1 rfl rfl (fun w' hm => ⟨?_, hm.base (by simp)⟩)
  rw [hb9]
theorem c49 {v : Value} {n : Int} {q : Nat} (r : Rl) (s : Sb) (w : World) (hq : PAt w q v n r) :
    Calls Try.prog 49 #[.agg #[.int .u8 s.code.toNat, .string s.text], .pointer (some ⟨q, 0, none⟩)] w fun e w' => e = .returned (.bool (!hasB r.codes s.code)) ∧ Later w w' := by
  refine enter (vs := [.agg #[.int .u8 s.code.toNat, .string s.text], .pointer (some ⟨q, 0, none⟩)]) Try.func49 rfl Try.ntmps49 rfl ?_
  refine w_seq ?_
  refine rg_text ?_
  refine x_box rfl rfl rfl rfl ?_
  intro p2
  refine x_val rfl rfl rfl (v_assign rfl) ?_
  refine x_end ?_
  refine t_norm ?_
  refine w_seq ?_
  refine rg_text ?_
  refine x_val rfl rfl rfl (v_fieldAddr Try.underlying77 rfl sz27 (by decide) rfl rfl) ?_
  refine x_val rfl rfl rfl (v_fieldAddr Try.underlying27 rfl sz9 (by decide) rfl rfl) ?_
  refine x_val rfl rfl rfl (v_load Try.underlying9 rfl rfl (at_ro (.head _) trivial (hq 7 (by show 7 < 9; decide)))) ?_
  refine x_val rfl rfl rfl (v_fieldAddr (off' := 0) Try.underlying48 rfl sz5 (by decide) rfl rfl) ?_
  refine x_val rfl rfl rfl (v_load Try.underlying5 rfl rfl (by first | exact at_ownL (.head _) rfl | exact at_ownL (.tail _ (.head _)) rfl | exact at_ownL (.tail _ (.tail _ (.head _))) rfl | (apply at_ownL; ((repeat (first | exact List.Mem.head _ | apply List.Mem.tail | apply List.mem_append_right))); rfl) | (refine at_ro (by first | exact .head _ | exact .tail _ (.head _) | exact .tail _ (.tail _ (.head _)) | simp) ?_ (by assumption); trivial))) ?_
  refine x_callv rfl rfl rfl Try.func50 (by kernel_rfl) rfl (fun w hw => c50 _ _ w) ?_
  refine x_bool rfl rfl rfl (v_lss rfl rfl) ?_
  intro b10 hb10
  refine x_val rfl rfl rfl (v_assign rfl) ?_
  refine x_end ?_
  refine t_norm ?_
  refine w_ret ?_
  refine ret1 rfl rfl (fun w' hm => ⟨?_, hm.base (by simp)⟩)
  rw [hb10, idx_neg]
theorem c37 (f : Fl) (B : Option Addr) (c : Nat) (w : World) :
    Calls Try.prog 37 #[.agg #[.string f.tag, .string f.ind, .string f.data, .slice B f.subs.length c]] w fun e w' => e = .returned (.bool (shp f)) ∧ Later w w' := by
  refine enter (vs := [.agg #[.string f.tag, .string f.ind, .string f.data, .slice B f.subs.length c]]) Try.func37 rfl Try.ntmps37 rfl ?_
  refine w_seq ?_
  refine rg_text ?_
  refine x_box rfl rfl rfl rfl ?_
  intro p1
  refine x_val rfl rfl rfl (v_assign rfl) ?_
  refine x_end ?_
  refine t_norm ?_
  refine w_seq ?_
  refine w_seq ?_
  refine rg_text ?_
  refine x_val rfl rfl rfl (v_load_blk Try.underlying46 rfl rfl (by first | exact .head _ | exact .tail _ (.head _) | exact .tail _ (.tail _ (.head _)) | (repeat (first | exact List.Mem.head _ | apply List.Mem.tail | apply List.mem_append_right))) (by exact sz46)) ?_
  refine x_callb rfl rfl rfl Try.func38 (by kernel_rfl) rfl (fun w1 hw1 => c38 f B f.subs.length c w1) ?_
  intro b4 hb4
  refine x_end ?_
  refine t_norm ?_
  refine w_cond rfl (fun hc4 => ?_) (fun hc4 => ?_)
  · simp only [hb4, decide_eq_true_eq, decide_eq_false_iff_not, Bool.and_eq_true, Bool.or_eq_true, Bool.and_eq_false_iff, Bool.or_eq_false_iff, Bool.not_eq_true', Bool.not_eq_false', ne_eq, Decidable.not_not] at hc4
    replace hc4 : ctl f.tag = true := hc4
    refine w_seq ?_
    refine rg_text ?_
    refine x_val rfl rfl rfl (v_fieldAddr (off' := 1) Try.underlying46 rfl sz9 (by decide) rfl rfl) ?_
    refine x_val rfl rfl rfl (v_load Try.underlying9 rfl rfl (by first | exact at_ownL (.head _) rfl | exact at_ownL (.tail _ (.head _)) rfl | exact at_ownL (.tail _ (.tail _ (.head _))) rfl | (apply at_ownL; ((repeat (first | exact List.Mem.head _ | apply List.Mem.tail | apply List.mem_append_right))); rfl) | (refine at_ro (by first | exact .head _ | exact .tail _ (.head _) | exact .tail _ (.tail _ (.head _)) | simp) ?_ (by assumption); trivial))) ?_
    refine x_bool rfl rfl rfl (v_seql rfl rfl) ?_
    intro b7 hb7
    refine x_val rfl rfl rfl (v_move rfl) ?_
    refine x_if [] rfl rfl rfl rfl rfl (fun hg => by obtain ⟨hg0, _⟩ := hg; subst hg0; (try simp only [List.cons_append, List.nil_append, gvl_nil, gvl_t, gvl_f]); exact v_fieldAddr (off' := 3) Try.underlying46 rfl sz44 (by decide) rfl rfl) ?_
    refine x_if [] rfl rfl rfl rfl rfl (fun hg => by obtain ⟨hg0, _⟩ := hg; subst hg0; (try simp only [List.cons_append, List.nil_append, gvl_nil, gvl_t, gvl_f]); exact v_load Try.underlying44 rfl rfl (by first | exact at_ownL (.head _) rfl | exact at_ownL (.tail _ (.head _)) rfl | exact at_ownL (.tail _ (.tail _ (.head _))) rfl | (apply at_ownL; ((repeat (first | exact List.Mem.head _ | apply List.Mem.tail | apply List.mem_append_right))); rfl) | (refine at_ro (by first | exact .head _ | exact .tail _ (.head _) | exact .tail _ (.tail _ (.head _)) | simp) ?_ (by assumption); trivial))) ?_
    refine x_if [] rfl rfl rfl rfl rfl (fun hg => by obtain ⟨hg0, _⟩ := hg; subst hg0; (try simp only [List.cons_append, List.nil_append, gvl_nil, gvl_t, gvl_f]); exact v_len_slice Try.underlying44 rfl) ?_
    refine x_ifb [] rfl rfl rfl rfl rfl (fun hg => by obtain ⟨hg0, _⟩ := hg; subst hg0; (try simp only [List.cons_append, List.nil_append, gvl_nil, gvl_t, gvl_f]); exact v_eql rfl rfl) ?_
    intro b12 hb12
    refine x_bool rfl rfl rfl (v_and rfl rfl) ?_
    intro b13 hb13
    refine x_val rfl rfl rfl (v_assign rfl) ?_
    refine x_end ?_
    refine t_norm ?_
    refine w_ret ?_
    refine t_ret ?_
    refine ret1 rfl rfl (fun w' hm => ⟨?_, hm.base (by simp)⟩)
    rw [hb13, hb12, hb7, shp, if_pos hc4]; simp [empty_iff]
  · simp only [hb4, decide_eq_true_eq, decide_eq_false_iff_not, Bool.and_eq_true, Bool.or_eq_true, Bool.and_eq_false_iff, Bool.or_eq_false_iff, Bool.not_eq_true', Bool.not_eq_false', ne_eq, Decidable.not_not] at hc4
    replace hc4 : ctl f.tag = false := hc4
    refine w_skip ?_
    refine t_norm ?_
    refine w_seq ?_
    refine rg_text ?_
    refine x_val rfl rfl rfl (v_fieldAddr (off' := 2) Try.underlying46 rfl sz9 (by decide) rfl rfl) ?_
    refine x_val rfl rfl rfl (v_load Try.underlying9 rfl rfl (by first | exact at_ownL (.head _) rfl | exact at_ownL (.tail _ (.head _)) rfl | exact at_ownL (.tail _ (.tail _ (.head _))) rfl | (apply at_ownL; ((repeat (first | exact List.Mem.head _ | apply List.Mem.tail | apply List.mem_append_right))); rfl) | (refine at_ro (by first | exact .head _ | exact .tail _ (.head _) | exact .tail _ (.tail _ (.head _)) | simp) ?_ (by assumption); trivial))) ?_
    refine x_bool rfl rfl rfl (v_seql rfl rfl) ?_
    intro b16 hb16
    refine x_val rfl rfl rfl (v_move rfl) ?_
    refine x_if [] rfl rfl rfl rfl rfl (fun hg => by obtain ⟨hg0, _⟩ := hg; subst hg0; (try simp only [List.cons_append, List.nil_append, gvl_nil, gvl_t, gvl_f]); exact v_fieldAddr (off' := 1) Try.underlying46 rfl sz9 (by decide) rfl rfl) ?_
    refine x_if [] rfl rfl rfl rfl rfl (fun hg => by obtain ⟨hg0, _⟩ := hg; subst hg0; (try simp only [List.cons_append, List.nil_append, gvl_nil, gvl_t, gvl_f]); exact v_load Try.underlying9 rfl rfl (by first | exact at_ownL (.head _) rfl | exact at_ownL (.tail _ (.head _)) rfl | exact at_ownL (.tail _ (.tail _ (.head _))) rfl | (apply at_ownL; ((repeat (first | exact List.Mem.head _ | apply List.Mem.tail | apply List.mem_append_right))); rfl) | (refine at_ro (by first | exact .head _ | exact .tail _ (.head _) | exact .tail _ (.tail _ (.head _)) | simp) ?_ (by assumption); trivial))) ?_
    refine x_if [] rfl rfl rfl rfl rfl (fun hg => by obtain ⟨hg0, _⟩ := hg; subst hg0; (try simp only [List.cons_append, List.nil_append, gvl_nil, gvl_t, gvl_f]); exact v_len_str Try.underlying9 rfl) ?_
    refine x_ifb [] rfl rfl rfl rfl rfl (fun hg => by obtain ⟨hg0, _⟩ := hg; subst hg0; (try simp only [List.cons_append, List.nil_append, gvl_nil, gvl_t, gvl_f]); exact v_eql rfl rfl) ?_
    intro b21 hb21
    refine x_bool rfl rfl rfl (v_and rfl rfl) ?_
    intro b22 hb22
    refine x_val rfl rfl rfl (v_move rfl) ?_
    refine x_if [] rfl rfl rfl rfl rfl (fun hg => by obtain ⟨hg0, _⟩ := hg; subst hg0; (try simp only [List.cons_append, List.nil_append, gvl_nil, gvl_t, gvl_f]); exact v_fieldAddr (off' := 3) Try.underlying46 rfl sz44 (by decide) rfl rfl) ?_
    refine x_if [] rfl rfl rfl rfl rfl (fun hg => by obtain ⟨hg0, _⟩ := hg; subst hg0; (try simp only [List.cons_append, List.nil_append, gvl_nil, gvl_t, gvl_f]); exact v_load Try.underlying44 rfl rfl (by first | exact at_ownL (.head _) rfl | exact at_ownL (.tail _ (.head _)) rfl | exact at_ownL (.tail _ (.tail _ (.head _))) rfl | (apply at_ownL; ((repeat (first | exact List.Mem.head _ | apply List.Mem.tail | apply List.mem_append_right))); rfl) | (refine at_ro (by first | exact .head _ | exact .tail _ (.head _) | exact .tail _ (.tail _ (.head _)) | simp) ?_ (by assumption); trivial))) ?_
    refine x_if [] rfl rfl rfl rfl rfl (fun hg => by obtain ⟨hg0, _⟩ := hg; subst hg0; (try simp only [List.cons_append, List.nil_append, gvl_nil, gvl_t, gvl_f]); exact v_len_slice Try.underlying44 rfl) ?_
    refine x_ifb [] rfl rfl rfl rfl rfl (fun hg => by obtain ⟨hg0, _⟩ := hg; subst hg0; (try simp only [List.cons_append, List.nil_append, gvl_nil, gvl_t, gvl_f]); exact v_gtr rfl rfl) ?_
    intro b27 hb27
    refine x_bool rfl rfl rfl (v_and rfl rfl) ?_
    intro b28 hb28
    refine x_val rfl rfl rfl (v_assign rfl) ?_
    refine x_end ?_
    refine t_norm ?_
    refine w_ret ?_
    refine ret1 rfl rfl (fun w' hm => ⟨?_, hm.base (by simp)⟩)
    rw [hb28, hb27, hb22, hb21, hb16, shp, if_neg (by rw [hc4]; exact Bool.false_ne_true)]; simp [empty_iff, two_iff, List.length_pos_iff, Bool.and_assoc]
theorem c41 {v : Value} {n : Nat} {D : Nat → Prop} {fs : List Fl} (r : Rl) (w : World) (hfs : sliceRd tyFl D w v fs) (hn : n < fs.length) :
    Calls Try.prog 41 #[.agg #[v, .int .i64 (n : Nat), .string r.tag, .bool r.must, .bool r.once, .string r.i0, .string r.i1, .string r.codes, .string r.single]] w fun e w' => e = .returned (.bool (r.once && (fs.take n).any (fun g => decide (g.tag = fs[n].tag)))) ∧ Later w w' := by
  obtain ⟨B, c, hf, hok, hsb⟩ := fat_of hfs hn
  obtain ⟨A, cc, rfl, hlc, hmx, hA⟩ := id hfs
  refine enter (vs := [.agg #[.slice A fs.length cc, .int .i64 (n : Nat), .string r.tag, .bool r.must, .bool r.once, .string r.i0, .string r.i1, .string r.codes, .string r.single]]) Try.func41 rfl Try.ntmps41 rfl ?_
  refine w_seq ?_
  refine rg_text ?_
  refine x_box rfl rfl rfl rfl ?_
  intro p1
  refine x_val rfl rfl rfl (v_assign rfl) ?_
  refine x_end ?_
  refine t_norm ?_
  refine w_seq ?_
  refine rg_text ?_
  refine x_val rfl rfl rfl (v_fieldAddr (off' := 2) Try.underlying77 rfl sz27 (by decide) rfl rfl) ?_
  refine x_val rfl rfl rfl (v_fieldAddr (off' := 4) Try.underlying27 rfl sz4 (by decide) rfl rfl) ?_
  refine x_bool rfl rfl rfl (v_load Try.underlying4 rfl rfl (by first | exact at_ownL (.head _) rfl | exact at_ownL (.tail _ (.head _)) rfl | exact at_ownL (.tail _ (.tail _ (.head _))) rfl | (apply at_ownL; ((repeat (first | exact List.Mem.head _ | apply List.Mem.tail | apply List.mem_append_right))); rfl) | (refine at_ro (by first | exact .head _ | exact .tail _ (.head _) | exact .tail _ (.tail _ (.head _)) | simp) ?_ (by assumption); trivial))) ?_
  intro b5 hb5
  refine x_val rfl rfl rfl (v_move rfl) ?_
  refine x_if [] rfl rfl rfl rfl rfl (fun hg => by obtain ⟨hg0, _⟩ := hg; subst hg0; (try simp only [List.cons_append, List.nil_append, gvl_nil, gvl_t, gvl_f]); exact v_fieldAddr (off' := 0) Try.underlying77 rfl sz30 (by decide) rfl rfl) ?_
  refine x_if [] rfl rfl rfl rfl rfl (fun hg => by obtain ⟨hg0, _⟩ := hg; subst hg0; (try simp only [List.cons_append, List.nil_append, gvl_nil, gvl_t, gvl_f]); exact v_load Try.underlying30 rfl rfl (by first | exact at_ownL (.head _) rfl | exact at_ownL (.tail _ (.head _)) rfl | exact at_ownL (.tail _ (.tail _ (.head _))) rfl | (apply at_ownL; ((repeat (first | exact List.Mem.head _ | apply List.Mem.tail | apply List.mem_append_right))); rfl) | (refine at_ro (by first | exact .head _ | exact .tail _ (.head _) | exact .tail _ (.tail _ (.head _)) | simp) ?_ (by assumption); trivial))) ?_
  refine x_if [] rfl rfl rfl rfl rfl (fun hg => by obtain ⟨hg0, _⟩ := hg; subst hg0; (try simp only [List.cons_append, List.nil_append, gvl_nil, gvl_t, gvl_f]); exact v_fieldAddr (off' := 1) Try.underlying77 rfl sz3 (by decide) rfl rfl) ?_
  refine x_if [] rfl rfl rfl rfl rfl (fun hg => by obtain ⟨hg0, _⟩ := hg; subst hg0; (try simp only [List.cons_append, List.nil_append, gvl_nil, gvl_t, gvl_f]); exact v_load Try.underlying3 rfl rfl (by first | exact at_ownL (.head _) rfl | exact at_ownL (.tail _ (.head _)) rfl | exact at_ownL (.tail _ (.tail _ (.head _))) rfl | (apply at_ownL; ((repeat (first | exact List.Mem.head _ | apply List.Mem.tail | apply List.mem_append_right))); rfl) | (refine at_ro (by first | exact .head _ | exact .tail _ (.head _) | exact .tail _ (.tail _ (.head _)) | simp) ?_ (by assumption); trivial))) ?_
  refine x_if [] rfl rfl rfl rfl rfl (fun hg => by obtain ⟨hg0, _⟩ := hg; subst hg0; (try simp only [List.cons_append, List.nil_append, gvl_nil, gvl_t, gvl_f]); exact v_scut_to Try.underlying30 sz46 rfl rfl (by first | omega | (dsimp only; omega))) ?_
  refine x_if [] rfl rfl rfl rfl rfl (fun hg => by obtain ⟨hg0, _⟩ := hg; subst hg0; (try simp only [List.cons_append, List.nil_append, gvl_nil, gvl_t, gvl_f]); exact v_func rfl) ?_
  refine x_call_ifb [] rfl rfl rfl rfl rfl Try.func42 (by kernel_rfl) (fun hg => by obtain ⟨hg0, _⟩ := hg; subst hg0; (try simp only [List.cons_append, List.nil_append, gvl_nil, gvl_t, gvl_f]); refine ⟨_, rfl, ?_⟩; exact fun w1 hw1 => c42 (cap := #[.pointer (some ⟨p1, 0, none⟩)]) (p := fun g => decide (g.tag = fs[n].tag)) w1 ((hfs.take n (by omega)).keep (Kept.later (hw1.base (by simp)))) Try.func43 (by kernel_rfl) (fun w2 hl vs x hx hrd => by obtain ⟨v', rfl, hok', C, d, rfl, h1, h2, h3⟩ := hrd; exact c43 (g := x) (f := fs[n]) (C := C) (d := d) r w2 (pat_own (hw1.later hl) (.head _)) (hf.later ((hw1.base (by simp)).trans hl)))) ?_
  intro b13 hb13
  refine x_bool rfl rfl rfl (v_and rfl rfl) ?_
  intro b14 hb14
  refine x_val rfl rfl rfl (v_assign rfl) ?_
  refine x_end ?_
  refine t_norm ?_
  refine w_ret ?_
  refine ret1 rfl rfl (fun w' hm => ⟨?_, hm.base (by simp)⟩)
  rw [hb14, hb13, hb5]
theorem c45 {v : Value} {n : Nat} (r : Rl) {f : Fl} {B : Option Addr} {c : Nat} (w : World) (hf : FAt w v n f B c) (h2 : f.ind.size = 2) :
    Calls Try.prog 45 #[.agg #[v, .int .i64 (n : Nat), .string r.tag, .bool r.must, .bool r.once, .string r.i0, .string r.i1, .string r.codes, .string r.single]] w fun e w' => e = .returned (.bool (!hasB r.i0 (byteAt f.ind 0) || !hasB r.i1 (byteAt f.ind 1))) ∧ Later w w' := by
  refine enter (vs := [.agg #[v, .int .i64 (n : Nat), .string r.tag, .bool r.must, .bool r.once, .string r.i0, .string r.i1, .string r.codes, .string r.single]]) Try.func45 rfl Try.ntmps45 rfl ?_
  refine w_seq ?_
  refine rg_text ?_
  refine x_box rfl rfl rfl rfl ?_
  intro p1
  refine x_val rfl rfl rfl (v_assign rfl) ?_
  refine x_end ?_
  refine t_norm ?_
  refine w_seq ?_
  refine rg_text ?_
  refine x_val rfl rfl rfl (v_load_blk Try.underlying77 rfl rfl (by first | exact .head _ | exact .tail _ (.head _) | exact .tail _ (.tail _ (.head _)) | (repeat (first | exact List.Mem.head _ | apply List.Mem.tail | apply List.mem_append_right))) (by exact sz77)) ?_
  refine x_callv rfl rfl rfl Try.func44 (by kernel_rfl) rfl (fun w1 hw1 => c44 r w1 (hf.later (hw1.base (by simp)))) ?_
  refine x_val rfl rfl rfl (v_field Try.underlying46 rfl Try.underlying9 rfl rfl rfl) ?_
  refine x_val rfl rfl rfl (v_assign rfl) ?_
  refine x_end ?_
  refine t_norm ?_
  refine w_seq ?_
  refine rg_draw 19 [(true, 0), (true, 1), (true, 2), (true, 3), (true, 4), (true, 5), (true, 6), (true, 7), (true, 8), (true, 9), (true, 10), (true, 11), (true, 12), (true, 13), (true, 14), (true, 15), (true, 16), (true, 17), (true, 18)] (by kernel_rfl) (by kernel_rfl) ?_
  refine x_val rfl rfl rfl (v_fieldAddr (off' := 2) Try.underlying77 rfl sz27 (by decide) rfl rfl) ?_
  refine x_val rfl rfl rfl (v_fieldAddr (off' := 5) Try.underlying27 rfl sz25 (by decide) rfl rfl) ?_
  refine x_val rfl rfl rfl (v_indexArr (j := 0) (off' := 5) Try.underlying25 sz9 rfl rfl (by first | omega | (dsimp only; omega)) rfl) ?_
  refine x_val rfl rfl rfl (v_load Try.underlying9 rfl rfl (by first | exact at_ownL (.head _) rfl | exact at_ownL (.tail _ (.head _)) rfl | exact at_ownL (.tail _ (.tail _ (.head _))) rfl | (apply at_ownL; ((repeat (first | exact List.Mem.head _ | apply List.Mem.tail | apply List.mem_append_right))); rfl) | (refine at_ro (by first | exact .head _ | exact .tail _ (.head _) | exact .tail _ (.tail _ (.head _)) | simp) ?_ (by assumption); trivial))) ?_
  refine x_val rfl rfl rfl (v_move rfl) ?_
  refine x_val rfl rfl rfl (v_cut_to (j := 1) Try.underlying9 rfl rfl (by first | omega | (dsimp only; omega))) ?_
  refine x_callb rfl rfl rfl Try.func46 (by kernel_rfl) rfl (fun w1 hw1 => c46 _ _ w1 (by rw [ByteArray.size_extract]; omega)) ?_
  intro b13 hb13
  refine x_bool rfl rfl rfl (v_not rfl) ?_
  intro b14 hb14
  refine x_val rfl rfl rfl (v_move rfl) ?_
  refine x_if [] rfl rfl rfl rfl rfl (fun hg => by obtain ⟨hg0, _⟩ := hg; subst hg0; (try simp only [List.cons_append, List.nil_append, gvl_nil, gvl_t, gvl_f]); exact v_fieldAddr (off' := 2) Try.underlying77 rfl sz27 (by decide) rfl rfl) ?_
  refine x_if [] rfl rfl rfl rfl rfl (fun hg => by obtain ⟨hg0, _⟩ := hg; subst hg0; (try simp only [List.cons_append, List.nil_append, gvl_nil, gvl_t, gvl_f]); exact v_fieldAddr (off' := 5) Try.underlying27 rfl sz25 (by decide) rfl rfl) ?_
  refine x_if [] rfl rfl rfl rfl rfl (fun hg => by obtain ⟨hg0, _⟩ := hg; subst hg0; (try simp only [List.cons_append, List.nil_append, gvl_nil, gvl_t, gvl_f]); exact v_indexArr (j := 1) (off' := 6) Try.underlying25 sz9 rfl rfl (by first | omega | (dsimp only; omega)) rfl) ?_
  refine x_if [] rfl rfl rfl rfl rfl (fun hg => by obtain ⟨hg0, _⟩ := hg; subst hg0; (try simp only [List.cons_append, List.nil_append, gvl_nil, gvl_t, gvl_f]); exact v_load Try.underlying9 rfl rfl (by first | exact at_ownL (.head _) rfl | exact at_ownL (.tail _ (.head _)) rfl | exact at_ownL (.tail _ (.tail _ (.head _))) rfl | (apply at_ownL; ((repeat (first | exact List.Mem.head _ | apply List.Mem.tail | apply List.mem_append_right))); rfl) | (refine at_ro (by first | exact .head _ | exact .tail _ (.head _) | exact .tail _ (.tail _ (.head _)) | simp) ?_ (by assumption); trivial))) ?_
  refine x_if [] rfl rfl rfl rfl rfl (fun hg => by obtain ⟨hg0, _⟩ := hg; subst hg0; (try simp only [List.cons_append, List.nil_append, gvl_nil, gvl_t, gvl_f]); exact v_move rfl) ?_
  refine x_if [] rfl rfl rfl rfl rfl (fun hg => by obtain ⟨hg0, _⟩ := hg; subst hg0; (try simp only [List.cons_append, List.nil_append, gvl_nil, gvl_t, gvl_f]); exact v_cut_from (i := 1) Try.underlying9 rfl rfl (by first | omega | (dsimp only; omega))) ?_
  refine x_call_ifb [] rfl rfl rfl rfl rfl Try.func46 (by kernel_rfl) (fun hg => by obtain ⟨hg0, _⟩ := hg; subst hg0; (try simp only [List.cons_append, List.nil_append, gvl_nil, gvl_t, gvl_f]); refine ⟨_, rfl, ?_⟩; exact fun w1 hw1 => c46 _ _ w1 (by rw [ByteArray.size_extract]; omega)) ?_
  intro b22 hb22
  refine x_ifb [] rfl rfl rfl rfl rfl (fun hg => by obtain ⟨hg0, _⟩ := hg; subst hg0; (try simp only [List.cons_append, List.nil_append, gvl_nil, gvl_t, gvl_f]); exact v_not rfl) ?_
  intro b23 hb23
  refine x_bool rfl rfl rfl (v_or rfl rfl) ?_
  intro b24 hb24
  refine x_val rfl rfl rfl (v_assign rfl) ?_
  refine x_end ?_
  refine t_norm ?_
  refine w_ret ?_
  refine ret1 rfl rfl (fun w' hm => ⟨?_, hm.base (by simp)⟩)
  rw [hb24, hb23, hb22, hb14, hb13, byteAt_extract (by omega) (by omega), byteAt_extract (by omega) (by omega)]
theorem c47 {v : Value} {n : Nat} (r : Rl) {f : Fl} {B : Option Addr} {c : Nat} {D : Nat → Prop} (w : World) (hf : FAt w v n f B c) (hs : sliceRd tySb D w (.slice B f.subs.length c) f.subs) :
    Calls Try.prog 47 #[.agg #[v, .int .i64 (n : Nat), .string r.tag, .bool r.must, .bool r.once, .string r.i0, .string r.i1, .string r.codes, .string r.single]] w fun e w' => e = .returned (.bool (f.subs.any (fun s => !hasB r.codes s.code))) ∧ Later w w' := by
  refine enter (vs := [.agg #[v, .int .i64 (n : Nat), .string r.tag, .bool r.must, .bool r.once, .string r.i0, .string r.i1, .string r.codes, .string r.single]]) Try.func47 rfl Try.ntmps47 rfl ?_
  refine w_seq ?_
  refine rg_text ?_
  refine x_box rfl rfl rfl rfl ?_
  intro p1
  refine x_val rfl rfl rfl (v_assign rfl) ?_
  refine x_end ?_
  refine t_norm ?_
  refine w_seq ?_
  refine rg_text ?_
  refine x_val rfl rfl rfl (v_load_blk Try.underlying77 rfl rfl (by first | exact .head _ | exact .tail _ (.head _) | exact .tail _ (.tail _ (.head _)) | (repeat (first | exact List.Mem.head _ | apply List.Mem.tail | apply List.mem_append_right))) (by exact sz77)) ?_
  refine x_callv rfl rfl rfl Try.func44 (by kernel_rfl) rfl (fun w1 hw1 => c44 r w1 (hf.later (hw1.base (by simp)))) ?_
  refine x_val rfl rfl rfl (v_field Try.underlying46 rfl Try.underlying44 rfl rfl rfl) ?_
  refine x_val rfl rfl rfl (v_func rfl) ?_
  refine x_callb rfl rfl rfl Try.func48 (by kernel_rfl) rfl (fun w1 hw1 => c48 (p := fun s => !hasB r.codes s.code) w1 (hs.keep (Kept.later (hw1.base (by simp)))) Try.func49 (by kernel_rfl) (fun w2 hl vs x hx hrd => by obtain ⟨rfl, hok⟩ := hrd; exact c49 r x w2 (pat_own (hw1.later hl) (.head _)))) ?_
  intro b7 hb7
  refine x_val rfl rfl rfl (v_assign rfl) ?_
  refine x_end ?_
  refine t_norm ?_
  refine w_ret ?_
  refine ret1 rfl rfl (fun w' hm => ⟨?_, hm.base (by simp)⟩)
  rw [hb7]

end Go.Proofs.Ytmihkbciilloaaa
