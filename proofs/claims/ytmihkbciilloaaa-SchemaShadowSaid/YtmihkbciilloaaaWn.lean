import Derived.Test.YtmihkbciilloaaaWm
import Derived.Test.YtmihkbciilloaaaPkRef4
namespace Go.Proofs.Ytmihkbciilloaaa
open Go.RowKit Go.PK
set_option linter.unusedVariables false
set_option linter.unusedSimpArgs false

theorem sb_at {D : Nat → Prop} {w : World} {B : Option Addr} {l c : Nat} {xs : List Sb} (h : sliceRd tySb D w (.slice B l c) xs) {k : Nat} (hk : k < xs.length) :
    ∃ b off, B = some ⟨b, off, none⟩ ∧ ∀ i (hi : i < [Value.int .u8 xs[k].code.toNat, .string xs[k].text].length), w.cell? ⟨b, off + k * 2 + i, none⟩ = some [Value.int .u8 xs[k].code.toNat, .string xs[k].text][i] := by
  obtain ⟨A, c', e, h1, h2, h3⟩ := h
  injection e with e1 e2 e3
  obtain ⟨b, off, hA, hD, hb, hc⟩ := h3 (by omega)
  obtain ⟨cs, hcs, rfl, hok⟩ := hc k hk
  exact ⟨b, off, e1.trans hA, hcs⟩
set_option maxRecDepth 100000 in
theorem c31 {v0 v : Value} {rs : List Rl} {fs : List Fl} {D : Nat → Prop} (n : Nat) (hn : n < fs.length) (w : World) (hrs : sliceRd tyRl D w v0 rs) (hfs : sliceRd tyFl D w v fs) :
    Calls Try.prog 31 #[v0, v, .int .i64 (n : Nat)] w fun e w' => e = .returned (.int .i64 (kindOf (fpb rs fs fs[n] n))) ∧ Later w w' := by
  obtain ⟨A0, c0, rfl, hlc0, hmx0, hA0⟩ := id hrs
  obtain ⟨A1, c1, rfl, hlc1, hmx1, hA1⟩ := id hfs
  obtain ⟨B, c, hf, hokf, hsb⟩ := fat_of hfs hn
  obtain ⟨b, off, len, cap, hv, hnl, hlen, hcs⟩ := hf.ex
  generalize hfe : fs[n] = f at hf hokf hsb hcs ⊢
  refine enter (vs := [.slice A0 rs.length c0, .slice A1 fs.length c1, .int .i64 (n : Nat)]) Try.func31 rfl Try.ntmps31 rfl ?_
  refine w_seq ?_
  refine rg_text ?_
  refine x_val rfl rfl rfl (v_assign rfl) ?_
  refine x_end ?_
  refine t_norm ?_
  refine w_seq ?_
  refine rg_text ?_
  refine x_val rfl rfl rfl (v_move rfl) ?_
  refine x_val rfl rfl rfl (v_move rfl) ?_
  refine x_val rfl rfl rfl (v_indexAddr Try.underlying30 sz46 (congrArg some hv) rfl (by first | omega | (dsimp only; omega)) rfl) ?_
  refine x_val rfl rfl rfl (v_loadN (vs := [Value.string f.tag, Value.string f.ind, Value.string f.data, Value.slice B f.subs.length c]) Try.underlying46 rfl sz46 rfl (fun i hi => at_ro (.head _) trivial (hcs i hi))) ?_
  refine x_alloc rfl rfl rfl zr46 ?_
  intro p7
  refine x_store0 [] rfl rfl rfl rfl sz46 rfl rfl ?_
  refine x_end ?_
  refine t_norm ?_
  refine w_seq ?_
  refine rg_text ?_
  refine x_val rfl rfl rfl (v_fieldAddr (off' := 0) Try.underlying46 rfl sz9 (by decide) rfl rfl) ?_
  refine x_val rfl rfl rfl (v_load Try.underlying9 rfl rfl (by first | exact at_ownL (.head _) rfl | exact at_ownL (.tail _ (.head _)) rfl | exact at_ownL (.tail _ (.tail _ (.head _))) rfl | (apply at_ownL; ((repeat (first | exact List.Mem.head _ | apply List.Mem.tail | apply List.mem_append_right))); rfl) | (refine at_ro (by first | exact .head _ | exact .tail _ (.head _) | exact .tail _ (.tail _ (.head _)) | simp) ?_ (by assumption); trivial))) ?_
  refine x_val rfl rfl rfl (v_len_str Try.underlying9 rfl) ?_
  refine x_bool rfl rfl rfl (v_geq rfl rfl) ?_
  intro b28 hb28
  refine x_val rfl rfl rfl (v_move rfl) ?_
  refine x_if [] rfl rfl rfl rfl rfl (fun hg => by obtain ⟨hg0, _⟩ := hg; subst hg0; (try simp only [List.cons_append, List.nil_append, gvl_nil, gvl_t, gvl_f]); exact v_fieldAddr (off' := 0) Try.underlying46 rfl sz9 (by decide) rfl rfl) ?_
  refine x_if [] rfl rfl rfl rfl rfl (fun hg => by obtain ⟨hg0, _⟩ := hg; subst hg0; (try simp only [List.cons_append, List.nil_append, gvl_nil, gvl_t, gvl_f]); exact v_load Try.underlying9 rfl rfl (by first | exact at_ownL (.head _) rfl | exact at_ownL (.tail _ (.head _)) rfl | exact at_ownL (.tail _ (.tail _ (.head _))) rfl | (apply at_ownL; ((repeat (first | exact List.Mem.head _ | apply List.Mem.tail | apply List.mem_append_right))); rfl) | (refine at_ro (by first | exact .head _ | exact .tail _ (.head _) | exact .tail _ (.tail _ (.head _)) | simp) ?_ (by assumption); trivial))) ?_
  refine x_if [] rfl rfl rfl rfl rfl (fun hg => by obtain ⟨hg0, _⟩ := hg; subst hg0; (try simp only [List.cons_append, List.nil_append, gvl_nil, gvl_t, gvl_f]); exact v_index (j := 0) Try.underlying9 rfl rfl (by have h := of_decide_eq_true hb28.symm; omega)) ?_
  refine x_ifb [] rfl rfl rfl rfl rfl (fun hg => by obtain ⟨hg0, _⟩ := hg; subst hg0; (try simp only [List.cons_append, List.nil_append, gvl_nil, gvl_t, gvl_f]); exact v_eql rfl rfl) ?_
  intro b33 hb33
  refine x_bool rfl rfl rfl (v_and rfl rfl) ?_
  intro b34 hb34
  refine x_val rfl rfl rfl (v_move rfl) ?_
  refine x_if [] rfl rfl rfl rfl rfl (fun hg => by obtain ⟨hg0, _⟩ := hg; subst hg0; (try simp only [List.cons_append, List.nil_append, gvl_nil, gvl_t, gvl_f]); exact v_fieldAddr (off' := 0) Try.underlying46 rfl sz9 (by decide) rfl rfl) ?_
  refine x_if [] rfl rfl rfl rfl rfl (fun hg => by obtain ⟨hg0, _⟩ := hg; subst hg0; (try simp only [List.cons_append, List.nil_append, gvl_nil, gvl_t, gvl_f]); exact v_load Try.underlying9 rfl rfl (by first | exact at_ownL (.head _) rfl | exact at_ownL (.tail _ (.head _)) rfl | exact at_ownL (.tail _ (.tail _ (.head _))) rfl | (apply at_ownL; ((repeat (first | exact List.Mem.head _ | apply List.Mem.tail | apply List.mem_append_right))); rfl) | (refine at_ro (by first | exact .head _ | exact .tail _ (.head _) | exact .tail _ (.tail _ (.head _)) | simp) ?_ (by assumption); trivial))) ?_
  refine x_if [] rfl rfl rfl rfl rfl (fun hg => by obtain ⟨hg0, _⟩ := hg; subst hg0; (try simp only [List.cons_append, List.nil_append, gvl_nil, gvl_t, gvl_f]); exact v_index (j := 1) Try.underlying9 rfl rfl (by have h := of_decide_eq_true (hb28.symm.trans (Bool.and_eq_true_iff.1 hb34.symm).1); omega)) ?_
  refine x_ifb [] rfl rfl rfl rfl rfl (fun hg => by obtain ⟨hg0, _⟩ := hg; subst hg0; (try simp only [List.cons_append, List.nil_append, gvl_nil, gvl_t, gvl_f]); exact v_eql rfl rfl) ?_
  intro b39 hb39
  refine x_bool rfl rfl rfl (v_and rfl rfl) ?_
  intro b40 hb40
  refine x_val rfl rfl rfl (v_assign rfl) ?_
  refine x_end ?_
  refine t_norm ?_
  refine w_seq ?_
  refine w_seq ?_
  refine rg_text ?_
  refine x_val rfl rfl rfl (v_move rfl) ?_
  refine x_val rfl rfl rfl (v_move rfl) ?_
  refine x_if [] rfl rfl rfl rfl rfl (fun hg => by obtain ⟨hg0, _⟩ := hg; subst hg0; (try simp only [List.cons_append, List.nil_append, gvl_nil, gvl_t, gvl_f]); exact v_fieldAddr (off' := 1) Try.underlying46 rfl sz9 (by decide) rfl rfl) ?_
  refine x_if [] rfl rfl rfl rfl rfl (fun hg => by obtain ⟨hg0, _⟩ := hg; subst hg0; (try simp only [List.cons_append, List.nil_append, gvl_nil, gvl_t, gvl_f]); exact v_load Try.underlying9 rfl rfl (by first | exact at_ownL (.head _) rfl | exact at_ownL (.tail _ (.head _)) rfl | exact at_ownL (.tail _ (.tail _ (.head _))) rfl | (apply at_ownL; ((repeat (first | exact List.Mem.head _ | apply List.Mem.tail | apply List.mem_append_right))); rfl) | (refine at_ro (by first | exact .head _ | exact .tail _ (.head _) | exact .tail _ (.tail _ (.head _)) | simp) ?_ (by assumption); trivial))) ?_
  refine x_ifb [] rfl rfl rfl rfl rfl (fun hg => by obtain ⟨hg0, _⟩ := hg; subst hg0; (try simp only [List.cons_append, List.nil_append, gvl_nil, gvl_t, gvl_f]); exact v_sneq rfl rfl) ?_
  intro b45 hb45
  refine x_if [] rfl rfl rfl rfl rfl (fun hg => by obtain ⟨hg0, _⟩ := hg; subst hg0; (try simp only [List.cons_append, List.nil_append, gvl_nil, gvl_t, gvl_f]); exact v_move rfl) ?_
  refine x_if [(b40, true)] rfl rfl rfl rfl rfl (fun hg => by obtain ⟨hg0, hg1, _⟩ := hg; subst hg0; subst hg1; (try simp only [List.cons_append, List.nil_append, gvl_nil, gvl_t, gvl_f]); exact v_fieldAddr (off' := 3) Try.underlying46 rfl sz44 (by decide) rfl rfl) ?_
  refine x_if [(b40, true)] rfl rfl rfl rfl rfl (fun hg => by obtain ⟨hg0, hg1, _⟩ := hg; subst hg0; subst hg1; (try simp only [List.cons_append, List.nil_append, gvl_nil, gvl_t, gvl_f]); exact v_load Try.underlying44 rfl rfl (by first | exact at_ownL (.head _) rfl | exact at_ownL (.tail _ (.head _)) rfl | exact at_ownL (.tail _ (.tail _ (.head _))) rfl | (apply at_ownL; ((repeat (first | exact List.Mem.head _ | apply List.Mem.tail | apply List.mem_append_right))); rfl) | (refine at_ro (by first | exact .head _ | exact .tail _ (.head _) | exact .tail _ (.tail _ (.head _)) | simp) ?_ (by assumption); trivial))) ?_
  refine x_if [(b40, true)] rfl rfl rfl rfl rfl (fun hg => by obtain ⟨hg0, hg1, _⟩ := hg; subst hg0; subst hg1; (try simp only [List.cons_append, List.nil_append, gvl_nil, gvl_t, gvl_f]); exact v_len_slice Try.underlying44 rfl) ?_
  refine x_ifb [(b40, true)] rfl rfl rfl rfl rfl (fun hg => by obtain ⟨hg0, hg1, _⟩ := hg; subst hg0; subst hg1; (try simp only [List.cons_append, List.nil_append, gvl_nil, gvl_t, gvl_f]); exact v_gtr rfl rfl) ?_
  intro b50 hb50
  refine x_ifb [] rfl rfl rfl rfl rfl (fun hg => by obtain ⟨hg0, _⟩ := hg; subst hg0; (try simp only [List.cons_append, List.nil_append, gvl_nil, gvl_t, gvl_f]); exact v_or rfl rfl) ?_
  intro b51 hb51
  refine x_bool rfl rfl rfl (v_and rfl rfl) ?_
  intro b52 hb52
  refine x_val rfl rfl rfl (v_move rfl) ?_
  refine x_if [] rfl rfl rfl rfl rfl (fun hg => by obtain ⟨hg0, _⟩ := hg; subst hg0; (try simp only [List.cons_append, List.nil_append, gvl_nil, gvl_t, gvl_f]); exact v_move rfl) ?_
  refine x_ifb [] rfl rfl rfl rfl rfl (fun hg => by obtain ⟨hg0, _⟩ := hg; subst hg0; (try simp only [List.cons_append, List.nil_append, gvl_nil, gvl_t, gvl_f]); exact v_not rfl) ?_
  intro b55 hb55
  refine x_if [] rfl rfl rfl rfl rfl (fun hg => by obtain ⟨hg0, _⟩ := hg; subst hg0; (try simp only [List.cons_append, List.nil_append, gvl_nil, gvl_t, gvl_f]); exact v_move rfl) ?_
  refine x_if [(b52, false)] rfl rfl rfl rfl rfl (fun hg => by obtain ⟨hg0, hg1, _⟩ := hg; subst hg0; subst hg1; (try simp only [List.cons_append, List.nil_append, gvl_nil, gvl_t, gvl_f]); exact v_fieldAddr (off' := 2) Try.underlying46 rfl sz9 (by decide) rfl rfl) ?_
  refine x_if [(b52, false)] rfl rfl rfl rfl rfl (fun hg => by obtain ⟨hg0, hg1, _⟩ := hg; subst hg0; subst hg1; (try simp only [List.cons_append, List.nil_append, gvl_nil, gvl_t, gvl_f]); exact v_load Try.underlying9 rfl rfl (by first | exact at_ownL (.head _) rfl | exact at_ownL (.tail _ (.head _)) rfl | exact at_ownL (.tail _ (.tail _ (.head _))) rfl | (apply at_ownL; ((repeat (first | exact List.Mem.head _ | apply List.Mem.tail | apply List.mem_append_right))); rfl) | (refine at_ro (by first | exact .head _ | exact .tail _ (.head _) | exact .tail _ (.tail _ (.head _)) | simp) ?_ (by assumption); trivial))) ?_
  refine x_ifb [(b52, false)] rfl rfl rfl rfl rfl (fun hg => by obtain ⟨hg0, hg1, _⟩ := hg; subst hg0; subst hg1; (try simp only [List.cons_append, List.nil_append, gvl_nil, gvl_t, gvl_f]); exact v_sneq rfl rfl) ?_
  intro b59 hb59
  refine x_if [(b52, false)] rfl rfl rfl rfl rfl (fun hg => by obtain ⟨hg0, hg1, _⟩ := hg; subst hg0; subst hg1; (try simp only [List.cons_append, List.nil_append, gvl_nil, gvl_t, gvl_f]); exact v_move rfl) ?_
  refine x_if [(b52, false), (b55, true)] rfl rfl rfl rfl rfl (fun hg => by obtain ⟨hg0, hg1, hg2, _⟩ := hg; subst hg0; subst hg1; subst hg2; (try simp only [List.cons_append, List.nil_append, gvl_nil, gvl_t, gvl_f]); exact v_fieldAddr (off' := 1) Try.underlying46 rfl sz9 (by decide) rfl rfl) ?_
  refine x_if [(b52, false), (b55, true)] rfl rfl rfl rfl rfl (fun hg => by obtain ⟨hg0, hg1, hg2, _⟩ := hg; subst hg0; subst hg1; subst hg2; (try simp only [List.cons_append, List.nil_append, gvl_nil, gvl_t, gvl_f]); exact v_load Try.underlying9 rfl rfl (by first | exact at_ownL (.head _) rfl | exact at_ownL (.tail _ (.head _)) rfl | exact at_ownL (.tail _ (.tail _ (.head _))) rfl | (apply at_ownL; ((repeat (first | exact List.Mem.head _ | apply List.Mem.tail | apply List.mem_append_right))); rfl) | (refine at_ro (by first | exact .head _ | exact .tail _ (.head _) | exact .tail _ (.tail _ (.head _)) | simp) ?_ (by assumption); trivial))) ?_
  refine x_if [(b52, false), (b55, true)] rfl rfl rfl rfl rfl (fun hg => by obtain ⟨hg0, hg1, hg2, _⟩ := hg; subst hg0; subst hg1; subst hg2; (try simp only [List.cons_append, List.nil_append, gvl_nil, gvl_t, gvl_f]); exact v_len_str Try.underlying9 rfl) ?_
  refine x_ifb [(b52, false), (b55, true)] rfl rfl rfl rfl rfl (fun hg => by obtain ⟨hg0, hg1, hg2, _⟩ := hg; subst hg0; subst hg1; subst hg2; (try simp only [List.cons_append, List.nil_append, gvl_nil, gvl_t, gvl_f]); exact v_neq rfl rfl) ?_
  intro b64 hb64
  refine x_ifb [(b52, false)] rfl rfl rfl rfl rfl (fun hg => by obtain ⟨hg0, hg1, _⟩ := hg; subst hg0; subst hg1; (try simp only [List.cons_append, List.nil_append, gvl_nil, gvl_t, gvl_f]); exact v_or rfl rfl) ?_
  intro b65 hb65
  refine x_if [(b52, false)] rfl rfl rfl rfl rfl (fun hg => by obtain ⟨hg0, hg1, _⟩ := hg; subst hg0; subst hg1; (try simp only [List.cons_append, List.nil_append, gvl_nil, gvl_t, gvl_f]); exact v_move rfl) ?_
  refine x_if [(b52, false), (b55, true)] rfl rfl rfl rfl rfl (fun hg => by obtain ⟨hg0, hg1, hg2, _⟩ := hg; subst hg0; subst hg1; subst hg2; (try simp only [List.cons_append, List.nil_append, gvl_nil, gvl_t, gvl_f]); exact v_fieldAddr (off' := 3) Try.underlying46 rfl sz44 (by decide) rfl rfl) ?_
  refine x_if [(b52, false), (b55, true)] rfl rfl rfl rfl rfl (fun hg => by obtain ⟨hg0, hg1, hg2, _⟩ := hg; subst hg0; subst hg1; subst hg2; (try simp only [List.cons_append, List.nil_append, gvl_nil, gvl_t, gvl_f]); exact v_load Try.underlying44 rfl rfl (by first | exact at_ownL (.head _) rfl | exact at_ownL (.tail _ (.head _)) rfl | exact at_ownL (.tail _ (.tail _ (.head _))) rfl | (apply at_ownL; ((repeat (first | exact List.Mem.head _ | apply List.Mem.tail | apply List.mem_append_right))); rfl) | (refine at_ro (by first | exact .head _ | exact .tail _ (.head _) | exact .tail _ (.tail _ (.head _)) | simp) ?_ (by assumption); trivial))) ?_
  refine x_if [(b52, false), (b55, true)] rfl rfl rfl rfl rfl (fun hg => by obtain ⟨hg0, hg1, hg2, _⟩ := hg; subst hg0; subst hg1; subst hg2; (try simp only [List.cons_append, List.nil_append, gvl_nil, gvl_t, gvl_f]); exact v_len_slice Try.underlying44 rfl) ?_
  refine x_ifb [(b52, false), (b55, true)] rfl rfl rfl rfl rfl (fun hg => by obtain ⟨hg0, hg1, hg2, _⟩ := hg; subst hg0; subst hg1; subst hg2; (try simp only [List.cons_append, List.nil_append, gvl_nil, gvl_t, gvl_f]); exact v_eql rfl rfl) ?_
  intro b70 hb70
  refine x_ifb [(b52, false)] rfl rfl rfl rfl rfl (fun hg => by obtain ⟨hg0, hg1, _⟩ := hg; subst hg0; subst hg1; (try simp only [List.cons_append, List.nil_append, gvl_nil, gvl_t, gvl_f]); exact v_or rfl rfl) ?_
  intro b71 hb71
  refine x_ifb [] rfl rfl rfl rfl rfl (fun hg => by obtain ⟨hg0, _⟩ := hg; subst hg0; (try simp only [List.cons_append, List.nil_append, gvl_nil, gvl_t, gvl_f]); exact v_and rfl rfl) ?_
  intro b72 hb72
  refine x_bool rfl rfl rfl (v_or rfl rfl) ?_
  intro b73 hb73
  refine x_end ?_
  refine t_norm ?_
  refine w_cond rfl (fun hc73 => ?_) (fun hc73 => ?_)
  · have hctl : b40 = ctl f.tag := by rw [hb40, hb39, hb34, hb33, hb28]; exact ctl_dec f.tag
    have hsh : b73 = !shp f := by rw [hb73, hb72, hb71, hb70, hb65, hb64, hb59, hb55, hb52, hb51, hb50, hb45, hctl]; exact shp_dec f
    have hshp : shp f = false := by rw [hsh] at hc73; simpa using hc73
    refine w_seq ?_
    refine rg_text ?_
    refine x_val rfl rfl rfl (v_assign rfl) ?_
    refine x_end ?_
    refine t_norm ?_
    refine w_ret ?_
    refine t_ret ?_
    refine ret1 rfl rfl (fun w' hm => ⟨?_, hm.base (by simp)⟩)
    rw [fpb_bad hshp]; rfl
  · have hctl : b40 = ctl f.tag := by rw [hb40, hb39, hb34, hb33, hb28]; exact ctl_dec f.tag
    have hsh : b73 = !shp f := by rw [hb73, hb72, hb71, hb70, hb65, hb64, hb59, hb55, hb52, hb51, hb50, hb45, hctl]; exact shp_dec f
    have hshp : shp f = true := by rw [hsh] at hc73; simpa using hc73
    refine w_skip ?_
    refine t_norm ?_
    refine w_seq ?_
    refine rg_text ?_
    refine x_val rfl rfl rfl (v_assign rfl) ?_
    refine x_end ?_
    refine t_norm ?_
    refine w_seq ?_
    refine w_seq ?_
    refine rg_text ?_
    refine x_val rfl rfl rfl (v_move rfl) ?_
    refine x_val rfl rfl rfl (v_len_slice Try.underlying23 rfl) ?_
    refine x_val rfl rfl rfl (v_subi rfl rfl rfl (by first | omega | (dsimp only; omega))) ?_
    refine x_val rfl rfl rfl (v_assign rfl) ?_
    refine x_end ?_
    refine t_norm ?_
    refine w_block ?_
    refine w_loop (σ := Nat × Int × Int) (fun x => x.1 ≤ rs.length ∧ x.2.1 = fidxFrom (fun r => mtc r.tag f.tag) rs x.1 ∧ x.2.2 = (x.1 : Int) - 1) (fun x => [(0, .slice A0 rs.length c0), (1, .slice A1 fs.length c1), (2, Value.int .i64 (n : Nat)), (7, .pointer (some ⟨p7, 0, none⟩)), (8, .bool b40), (9, Value.int .i64 x.2.1), (10, Value.int .i64 x.2.2)]) (fun x => [(p7, Obj.cells [Value.string f.tag, Value.string f.ind, Value.string f.data, Value.slice B f.subs.length c].toArray 46)]) (fun x => [(w, fun _ => True)]) (fun x => x.1) ((rs.length, -1, (rs.length : Int) - 1)) (⟨Nat.le_refl _, fidxFrom_end.symm, rfl⟩) (l_start (by repeat (first | exact Sub.nil | refine Sub.cons rfl ?_)) (fun _ h => h)) ?_
    rintro ⟨m, t, u⟩ ⟨hm, ht, hu⟩
    dsimp only at hm ht hu
    refine w_seq ?_
    refine w_seq ?_
    refine rg_text ?_
    refine x_val rfl rfl rfl (v_move rfl) ?_
    refine x_bool rfl rfl rfl (v_geq rfl rfl) ?_
    intro b78 hb78
    refine x_end ?_
    refine t_norm ?_
    refine w_cond rfl (fun hc78 => ?_) (fun hc78 => ?_)
    · simp only [hb78, decide_eq_true_eq, decide_eq_false_iff_not, Bool.and_eq_true, Bool.or_eq_true, Bool.and_eq_false_iff, Bool.or_eq_false_iff, Bool.not_eq_true', Bool.not_eq_false', ne_eq, Decidable.not_not] at hc78
      obtain ⟨q, rfl⟩ : ∃ q : Nat, u = (q : Int) := ⟨m - 1, by omega⟩
      obtain rfl : m = q + 1 := by omega
      have hq : q < rs.length := by omega
      obtain ⟨b0, o0, hv0, hD0, hb0, hcell0⟩ := hA0 (by omega)
      obtain ⟨cs0, hcs0, hrd0, hok0⟩ := hcell0 q (by omega)
      subst hrd0
      refine w_skip ?_
      refine t_norm ?_
      refine w_seq ?_
      refine w_block ?_
      refine w_seq ?_
      refine rg_draw 9 [(true, 0), (true, 1), (true, 2), (true, 3), (true, 4), (true, 5), (true, 6), (true, 7), (true, 8)] (by kernel_rfl) (by kernel_rfl) ?_
      refine x_val rfl rfl rfl (v_move rfl) ?_
      refine x_val rfl rfl rfl (v_move rfl) ?_
      refine x_val rfl rfl rfl (v_indexAddr Try.underlying23 sz27 (congrArg (fun A => some (Value.slice A rs.length c0)) hv0) rfl (by first | omega | (dsimp only; omega)) rfl) ?_
      refine x_val rfl rfl rfl (v_fieldAddr Try.underlying27 rfl sz9 (by decide) rfl rfl) ?_
      refine x_val rfl rfl rfl (v_load Try.underlying9 rfl rfl (at_ro (.head _) trivial (hcs0 0 (by show 0 < 7; omega)))) ?_
      refine x_val rfl rfl rfl (v_fieldAddr (off' := 0) Try.underlying46 rfl sz9 (by decide) rfl rfl) ?_
      refine x_val rfl rfl rfl (v_load Try.underlying9 rfl rfl (by first | exact at_ownL (.head _) rfl | exact at_ownL (.tail _ (.head _)) rfl | exact at_ownL (.tail _ (.tail _ (.head _))) rfl | (apply at_ownL; ((repeat (first | exact List.Mem.head _ | apply List.Mem.tail | apply List.mem_append_right))); rfl) | (refine at_ro (by first | exact .head _ | exact .tail _ (.head _) | exact .tail _ (.tail _ (.head _)) | simp) ?_ (by assumption); trivial))) ?_
      refine x_callb rfl rfl rfl Try.func32 (by kernel_rfl) rfl (fun w1 hw1 => c32 _ _ w1 hok0.1 hokf.1) ?_
      intro b88 hb88
      refine x_val rfl rfl rfl (v_assign rfl) ?_
      refine x_end ?_
      refine t_norm ?_
      refine w_seq ?_
      refine rg_text ?_
      refine x_val rfl rfl rfl (v_move rfl) ?_
      refine x_end ?_
      refine t_norm ?_
      refine w_cond rfl (fun hc89 => ?_) (fun hc89 => ?_)
      · simp only [hb88, decide_eq_true_eq, decide_eq_false_iff_not, Bool.and_eq_true, Bool.or_eq_true, Bool.and_eq_false_iff, Bool.or_eq_false_iff, Bool.not_eq_true', Bool.not_eq_false', ne_eq, Decidable.not_not] at hc89
        refine rg_text ?_
        refine x_val rfl rfl rfl (v_move rfl) ?_
        refine x_val rfl rfl rfl (v_assign rfl) ?_
        refine x_end ?_
        refine b_norm ?_
        refine t_norm ?_
        refine rg_text ?_
        refine x_val rfl rfl rfl (v_move rfl) ?_
        refine x_val rfl rfl rfl (v_subi rfl rfl rfl (by first | omega | (dsimp only; omega))) ?_
        refine x_val rfl rfl rfl (v_assign rfl) ?_
        refine x_end ?_
        exact l_norm (q, (q : Int), (q : Int) - 1) ⟨by omega, (fidxFrom_yes hq hc89).symm, rfl⟩ (by simp only; omega) (by repeat (first | exact Sub.nil | refine Sub.cons rfl ?_)) (fun _ h => h)
      · simp only [hb88, decide_eq_true_eq, decide_eq_false_iff_not, Bool.and_eq_true, Bool.or_eq_true, Bool.and_eq_false_iff, Bool.or_eq_false_iff, Bool.not_eq_true', Bool.not_eq_false', ne_eq, Decidable.not_not] at hc89
        refine w_skip ?_
        refine b_norm ?_
        refine t_norm ?_
        refine rg_text ?_
        refine x_val rfl rfl rfl (v_move rfl) ?_
        refine x_val rfl rfl rfl (v_subi rfl rfl rfl (by first | omega | (dsimp only; omega))) ?_
        refine x_val rfl rfl rfl (v_assign rfl) ?_
        refine x_end ?_
        exact l_norm (q, t, (q : Int) - 1) ⟨by omega, ht.trans (fidxFrom_no hq hc89).symm, rfl⟩ (by simp only; omega) (by repeat (first | exact Sub.nil | refine Sub.cons rfl ?_)) (fun _ h => h)
    · simp only [hb78, decide_eq_true_eq, decide_eq_false_iff_not, Bool.and_eq_true, Bool.or_eq_true, Bool.and_eq_false_iff, Bool.or_eq_false_iff, Bool.not_eq_true', Bool.not_eq_false', ne_eq, Decidable.not_not] at hc78
      obtain rfl : m = 0 := by omega
      rw [fidxFrom_zero] at ht
      refine w_exit ?_
      refine t_exit ?_
      refine t_exit ?_
      refine b_hit ?_
      refine t_norm ?_
      refine w_seq ?_
      refine w_seq ?_
      refine rg_text ?_
      refine x_val rfl rfl rfl (v_move rfl) ?_
      refine x_bool rfl rfl rfl (v_lss rfl rfl) ?_
      intro b92 hb92
      refine x_end ?_
      refine t_norm ?_
      refine w_cond rfl (fun hc92 => ?_) (fun hc92 => ?_)
      · simp only [hb92, decide_eq_true_eq, decide_eq_false_iff_not, Bool.and_eq_true, Bool.or_eq_true, Bool.and_eq_false_iff, Bool.or_eq_false_iff, Bool.not_eq_true', Bool.not_eq_false', ne_eq, Decidable.not_not] at hc92
        refine w_seq ?_
        refine rg_text ?_
        refine x_val rfl rfl rfl (v_assign rfl) ?_
        refine x_end ?_
        refine t_norm ?_
        refine w_ret ?_
        refine t_ret ?_
        refine ret1 rfl rfl (fun w' hm => ⟨?_, hm.base (by simp)⟩)
        rw [fpb_tag hshp (by rw [← ht]; omega)]; rfl
      · simp only [hb92, decide_eq_true_eq, decide_eq_false_iff_not, Bool.and_eq_true, Bool.or_eq_true, Bool.and_eq_false_iff, Bool.or_eq_false_iff, Bool.not_eq_true', Bool.not_eq_false', ne_eq, Decidable.not_not] at hc92
        obtain ⟨q, hq, hqe, hqf⟩ := fidx_some (p := fun r => mtc r.tag f.tag) (xs := rs) (by omega)
        obtain rfl : t = (q : Int) := ht.trans hqe
        obtain ⟨b0, o0, hv0, hD0, hb0, hcell0⟩ := hA0 (by omega)
        obtain ⟨cs0, hcs0, hrd0, hok0⟩ := hcell0 q (by omega)
        subst hrd0
        obtain ⟨r, hr⟩ : ∃ r, rs[q] = r := ⟨_, rfl⟩
        rw [hr] at hcs0 hok0
        have hfp : fpb rs fs f n = tpb r fs f n := by rw [fpb_at hshp hq hqf, hr]
        refine w_skip ?_
        refine t_norm ?_
        refine w_seq ?_
        refine rg_text ?_
        refine x_val rfl rfl rfl (v_move rfl) ?_
        refine x_val rfl rfl rfl (v_move rfl) ?_
        refine x_val rfl rfl rfl (v_indexAddr Try.underlying23 sz27 (congrArg (fun A => some (Value.slice A rs.length c0)) hv0) rfl (by first | omega | (dsimp only; omega)) rfl) ?_
        refine x_val rfl rfl rfl (v_loadN (vs := [Value.string r.tag, .bool r.must, .bool r.once, .string r.i0, .string r.i1, .string r.codes, .string r.single]) Try.underlying27 rfl sz27 rfl (fun i hi => at_ro (.head _) trivial (hcs0 i hi))) ?_
        refine x_alloc rfl rfl rfl zr27 ?_
        intro p12
        refine x_store0 [] rfl rfl rfl rfl sz27 rfl rfl ?_
        refine x_end ?_
        refine t_norm ?_
        refine w_seq ?_
        refine w_seq ?_
        refine rg_text ?_
        refine x_val rfl rfl rfl (v_assign rfl) ?_
        refine x_end ?_
        refine t_norm ?_
        refine w_block ?_
        refine w_loop (σ := Nat) (fun k => k ≤ n ∧ (r.once = true → ∀ j (hj : j < fs.length), j < k → fs[j].tag ≠ f.tag)) (fun k => [(0, .slice A0 rs.length c0), (1, .slice A1 fs.length c1), (2, Value.int .i64 (n : Nat)), (7, .pointer (some ⟨p7, 0, none⟩)), (8, .bool b40), (12, .pointer (some ⟨p12, 0, none⟩)), (13, Value.int .i64 (k : Nat))]) (fun k => [(p12, Obj.cells [Value.string r.tag, .bool r.must, .bool r.once, .string r.i0, .string r.i1, .string r.codes, .string r.single].toArray 27), (p7, Obj.cells [Value.string f.tag, Value.string f.ind, Value.string f.data, Value.slice B f.subs.length c].toArray 46)]) (fun k => [(w, fun _ => True)]) (fun k => n - k) (0) (⟨Nat.zero_le _, by intros; omega⟩) (l_start (by repeat (first | exact Sub.nil | refine Sub.cons rfl ?_)) (fun _ h => h)) ?_
        rintro k ⟨hk, hno⟩
        refine w_seq ?_
        refine w_seq ?_
        refine rg_text ?_
        refine x_val rfl rfl rfl (v_move rfl) ?_
        refine x_val rfl rfl rfl (v_move rfl) ?_
        refine x_bool rfl rfl rfl (v_lss rfl rfl) ?_
        intro b99 hb99
        refine x_val rfl rfl rfl (v_move rfl) ?_
        refine x_if [] rfl rfl rfl rfl rfl (fun hg => by obtain ⟨hg0, _⟩ := hg; subst hg0; (try simp only [List.cons_append, List.nil_append, gvl_nil, gvl_t, gvl_f]); exact v_fieldAddr (off' := 2) Try.underlying27 rfl sz4 (by decide) rfl rfl) ?_
        refine x_ifb [] rfl rfl rfl rfl rfl (fun hg => by obtain ⟨hg0, _⟩ := hg; subst hg0; (try simp only [List.cons_append, List.nil_append, gvl_nil, gvl_t, gvl_f]); exact v_load Try.underlying4 rfl rfl (by first | exact at_ownL (.head _) rfl | exact at_ownL (.tail _ (.head _)) rfl | exact at_ownL (.tail _ (.tail _ (.head _))) rfl | (apply at_ownL; ((repeat (first | exact List.Mem.head _ | apply List.Mem.tail | apply List.mem_append_right))); rfl) | (refine at_ro (by first | exact .head _ | exact .tail _ (.head _) | exact .tail _ (.tail _ (.head _)) | simp) ?_ (by assumption); trivial))) ?_
        intro b102 hb102
        refine x_bool rfl rfl rfl (v_and rfl rfl) ?_
        intro b103 hb103
        refine x_end ?_
        refine t_norm ?_
        refine w_cond rfl (fun hc103 => ?_) (fun hc103 => ?_)
        · simp only [hb103, hb102, hb99, decide_eq_true_eq, decide_eq_false_iff_not, Bool.and_eq_true, Bool.or_eq_true, Bool.and_eq_false_iff, Bool.or_eq_false_iff, Bool.not_eq_true', Bool.not_eq_false', ne_eq, Decidable.not_not] at hc103
          have hkf : k < fs.length := by omega
          obtain ⟨B2, c2, hf2, hok2, hsb2⟩ := fat_of hfs hkf
          obtain ⟨b2, off2, len2, cap2, hv2, hnl2, hlen2, hcs2⟩ := hf2.ex
          refine w_skip ?_
          refine t_norm ?_
          refine w_seq ?_
          refine w_block ?_
          refine w_seq ?_
          refine rg_draw 8 [(true, 0), (true, 1), (true, 2), (true, 3), (true, 4), (true, 5), (true, 6), (true, 7)] (by kernel_rfl) (by kernel_rfl) ?_
          refine x_val rfl rfl rfl (v_move rfl) ?_
          refine x_val rfl rfl rfl (v_move rfl) ?_
          refine x_val rfl rfl rfl (v_indexAddr Try.underlying30 sz46 (congrArg some hv2) rfl (by first | omega | (dsimp only; omega)) rfl) ?_
          refine x_val rfl rfl rfl (v_fieldAddr Try.underlying46 rfl sz9 (by decide) rfl rfl) ?_
          refine x_val rfl rfl rfl (v_load Try.underlying9 rfl rfl (at_ro (.head _) trivial (hcs2 0 (by show 0 < 4; omega)))) ?_
          refine x_val rfl rfl rfl (v_fieldAddr (off' := 0) Try.underlying46 rfl sz9 (by decide) rfl rfl) ?_
          refine x_val rfl rfl rfl (v_load Try.underlying9 rfl rfl (by first | exact at_ownL (.head _) rfl | exact at_ownL (.tail _ (.head _)) rfl | exact at_ownL (.tail _ (.tail _ (.head _))) rfl | (apply at_ownL; ((repeat (first | exact List.Mem.head _ | apply List.Mem.tail | apply List.mem_append_right))); rfl) | (refine at_ro (by first | exact .head _ | exact .tail _ (.head _) | exact .tail _ (.tail _ (.head _)) | simp) ?_ (by assumption); trivial))) ?_
          refine x_bool rfl rfl rfl (v_seql rfl rfl) ?_
          intro b113 hb113
          refine x_end ?_
          refine t_norm ?_
          refine w_cond rfl (fun hc113 => ?_) (fun hc113 => ?_)
          · simp only [hb113, decide_eq_true_eq, decide_eq_false_iff_not, Bool.and_eq_true, Bool.or_eq_true, Bool.and_eq_false_iff, Bool.or_eq_false_iff, Bool.not_eq_true', Bool.not_eq_false', ne_eq, Decidable.not_not] at hc113
            refine w_seq ?_
            refine rg_text ?_
            refine x_val rfl rfl rfl (v_assign rfl) ?_
            refine x_end ?_
            refine t_norm ?_
            refine w_ret ?_
            refine b_ret ?_
            refine t_ret ?_
            refine t_ret ?_
            refine b_ret ?_
            refine t_ret ?_
            refine ret1 rfl rfl (fun w' hm => ⟨?_, hm.base (by simp)⟩)
            rw [hfp, tpb_at (j := 0) (by decide) (tst0_yes hc103.2 (by omega) hkf hc113) (by intros; omega)]; rfl
          · simp only [hb113, decide_eq_true_eq, decide_eq_false_iff_not, Bool.and_eq_true, Bool.or_eq_true, Bool.and_eq_false_iff, Bool.or_eq_false_iff, Bool.not_eq_true', Bool.not_eq_false', ne_eq, Decidable.not_not] at hc113
            refine w_skip ?_
            refine b_norm ?_
            refine t_norm ?_
            refine rg_text ?_
            refine x_val rfl rfl rfl (v_move rfl) ?_
            refine x_val rfl rfl rfl (v_addi rfl rfl rfl (by first | omega | (dsimp only; omega))) ?_
            refine x_val rfl rfl rfl (v_assign rfl) ?_
            refine x_end ?_
            exact l_norm (k + 1) ⟨by omega, fun ho j hj hjk => by rcases Nat.lt_succ_iff_lt_or_eq.1 hjk with h | rfl; (· exact hno ho j hj h); exact hc113⟩ (by omega) (by repeat (first | exact Sub.nil | refine Sub.cons rfl ?_)) (fun _ h => h)
        · simp only [hb103, hb102, hb99, decide_eq_true_eq, decide_eq_false_iff_not, Bool.and_eq_true, Bool.or_eq_true, Bool.and_eq_false_iff, Bool.or_eq_false_iff, Bool.not_eq_true', Bool.not_eq_false', ne_eq, Decidable.not_not] at hc103
          have h0 : tst r fs f n 0 = false := tst0_no (fun ho j hj hjn => hno ho j hj (by rcases hc103 with h | h; (· omega); rw [ho] at h; cases h))
          refine w_exit ?_
          refine t_exit ?_
          refine t_exit ?_
          refine b_hit ?_
          refine t_norm ?_
          refine w_seq ?_
          refine w_seq ?_
          refine rg_text ?_
          refine x_val rfl rfl rfl (v_move rfl) ?_
          refine x_end ?_
          refine t_norm ?_
          refine w_cond rfl (fun hc114 => ?_) (fun hc114 => ?_)
          · have hcc : ctl f.tag = true := hctl.symm.trans hc114
            refine w_seq ?_
            refine rg_text ?_
            refine x_val rfl rfl rfl (v_assign rfl) ?_
            refine x_end ?_
            refine t_norm ?_
            refine w_ret ?_
            refine t_ret ?_
            refine ret1 rfl rfl (fun w' hm => ⟨?_, hm.base (by simp)⟩)
            rw [hfp, tpb_none (tst_ctl hcc h0)]; rfl
          · have hcc : ctl f.tag = false := hctl.symm.trans hc114
            have hsz : f.ind.size = 2 := by unfold shp at hshp; rw [hcc] at hshp; simp at hshp; exact hshp.2.1
            have hls : f.subs.length ≤ 9223372036854775807 := by obtain ⟨_, _, e, _, h, _⟩ := hsb; exact h
            refine w_skip ?_
            refine t_norm ?_
            refine w_seq ?_
            refine rg_draw 8 [(true, 0), (true, 1), (true, 2), (true, 3), (true, 4), (true, 5), (true, 6), (true, 7)] (by kernel_rfl) (by kernel_rfl) ?_
            refine x_val rfl rfl rfl (v_fieldAddr (off' := 3) Try.underlying27 rfl sz25 (by decide) rfl rfl) ?_
            refine x_val rfl rfl rfl (v_indexArr (j := 0) (off' := 3) Try.underlying25 sz9 rfl rfl (by first | omega | (dsimp only; omega)) rfl) ?_
            refine x_val rfl rfl rfl (v_load Try.underlying9 rfl rfl (by first | exact at_ownL (.head _) rfl | exact at_ownL (.tail _ (.head _)) rfl | exact at_ownL (.tail _ (.tail _ (.head _))) rfl | (apply at_ownL; ((repeat (first | exact List.Mem.head _ | apply List.Mem.tail | apply List.mem_append_right))); rfl) | (refine at_ro (by first | exact .head _ | exact .tail _ (.head _) | exact .tail _ (.tail _ (.head _)) | simp) ?_ (by assumption); trivial))) ?_
            refine x_val rfl rfl rfl (v_fieldAddr (off' := 1) Try.underlying46 rfl sz9 (by decide) rfl rfl) ?_
            refine x_val rfl rfl rfl (v_load Try.underlying9 rfl rfl (by first | exact at_ownL (.head _) rfl | exact at_ownL (.tail _ (.head _)) rfl | exact at_ownL (.tail _ (.tail _ (.head _))) rfl | (apply at_ownL; ((repeat (first | exact List.Mem.head _ | apply List.Mem.tail | apply List.mem_append_right))); rfl) | (refine at_ro (by first | exact .head _ | exact .tail _ (.head _) | exact .tail _ (.tail _ (.head _)) | simp) ?_ (by assumption); trivial))) ?_
            refine x_val rfl rfl rfl (v_index (j := 0) Try.underlying9 rfl rfl (by first | omega | (dsimp only; omega))) ?_
            refine x_callb rfl rfl rfl Try.func40 (by kernel_rfl) rfl (fun w1 hw1 => c40 _ _ w1 hok0.2.1) ?_
            intro b121 hb121
            refine x_val rfl rfl rfl (v_assign rfl) ?_
            refine x_end ?_
            refine t_norm ?_
            refine w_seq ?_
            refine rg_draw 8 [(true, 0), (true, 1), (true, 2), (true, 3), (true, 4), (true, 5), (true, 6), (true, 7)] (by kernel_rfl) (by kernel_rfl) ?_
            refine x_val rfl rfl rfl (v_fieldAddr (off' := 3) Try.underlying27 rfl sz25 (by decide) rfl rfl) ?_
            refine x_val rfl rfl rfl (v_indexArr (j := 1) (off' := 4) Try.underlying25 sz9 rfl rfl (by first | omega | (dsimp only; omega)) rfl) ?_
            refine x_val rfl rfl rfl (v_load Try.underlying9 rfl rfl (by first | exact at_ownL (.head _) rfl | exact at_ownL (.tail _ (.head _)) rfl | exact at_ownL (.tail _ (.tail _ (.head _))) rfl | (apply at_ownL; ((repeat (first | exact List.Mem.head _ | apply List.Mem.tail | apply List.mem_append_right))); rfl) | (refine at_ro (by first | exact .head _ | exact .tail _ (.head _) | exact .tail _ (.tail _ (.head _)) | simp) ?_ (by assumption); trivial))) ?_
            refine x_val rfl rfl rfl (v_fieldAddr (off' := 1) Try.underlying46 rfl sz9 (by decide) rfl rfl) ?_
            refine x_val rfl rfl rfl (v_load Try.underlying9 rfl rfl (by first | exact at_ownL (.head _) rfl | exact at_ownL (.tail _ (.head _)) rfl | exact at_ownL (.tail _ (.tail _ (.head _))) rfl | (apply at_ownL; ((repeat (first | exact List.Mem.head _ | apply List.Mem.tail | apply List.mem_append_right))); rfl) | (refine at_ro (by first | exact .head _ | exact .tail _ (.head _) | exact .tail _ (.tail _ (.head _)) | simp) ?_ (by assumption); trivial))) ?_
            refine x_val rfl rfl rfl (v_index (j := 1) Try.underlying9 rfl rfl (by first | omega | (dsimp only; omega))) ?_
            refine x_callb rfl rfl rfl Try.func40 (by kernel_rfl) rfl (fun w1 hw1 => c40 _ _ w1 hok0.2.2.1) ?_
            intro b128 hb128
            refine x_val rfl rfl rfl (v_assign rfl) ?_
            refine x_end ?_
            refine t_norm ?_
            refine w_seq ?_
            refine w_seq ?_
            refine rg_text ?_
            refine x_val rfl rfl rfl (v_move rfl) ?_
            refine x_bool rfl rfl rfl (v_not rfl) ?_
            intro b130 hb130
            refine x_val rfl rfl rfl (v_move rfl) ?_
            refine x_if [] rfl rfl rfl rfl rfl (fun hg => by obtain ⟨hg0, _⟩ := hg; subst hg0; (try simp only [List.cons_append, List.nil_append, gvl_nil, gvl_t, gvl_f]); exact v_move rfl) ?_
            refine x_ifb [] rfl rfl rfl rfl rfl (fun hg => by obtain ⟨hg0, _⟩ := hg; subst hg0; (try simp only [List.cons_append, List.nil_append, gvl_nil, gvl_t, gvl_f]); exact v_not rfl) ?_
            intro b133 hb133
            refine x_bool rfl rfl rfl (v_or rfl rfl) ?_
            intro b134 hb134
            refine x_end ?_
            refine t_norm ?_
            refine w_cond rfl (fun hc134 => ?_) (fun hc134 => ?_)
            · have h1 : tst r fs f n 1 = true := by rw [tst_eq (by decide) hcc, ← hc134, hb134, hb133, hb130, hb128, hb121]; rfl
              refine w_seq ?_
              refine rg_text ?_
              refine x_val rfl rfl rfl (v_assign rfl) ?_
              refine x_end ?_
              refine t_norm ?_
              refine w_ret ?_
              refine t_ret ?_
              refine ret1 rfl rfl (fun w' hm => ⟨?_, hm.base (by simp)⟩)
              rw [hfp, tpb_at (j := 1) (by decide) h1 (fun i hi => by obtain rfl : i = 0 := (by omega); exact h0)]; rfl
            · have h1 : tst r fs f n 1 = false := by rw [tst_eq (by decide) hcc, ← hc134, hb134, hb133, hb130, hb128, hb121]; rfl
              refine w_skip ?_
              refine t_norm ?_
              refine w_seq ?_
              refine w_seq ?_
              refine rg_text ?_
              refine x_val rfl rfl rfl (v_assign rfl) ?_
              refine x_end ?_
              refine t_norm ?_
              refine w_block ?_
              refine w_loop (σ := Nat) (fun k => k ≤ f.subs.length ∧ (∀ j, j < k → hasB r.codes (cdAt f.subs j) = true)) (fun k => [(0, .slice A0 rs.length c0), (1, .slice A1 fs.length c1), (2, Value.int .i64 (n : Nat)), (7, .pointer (some ⟨p7, 0, none⟩)), (8, .bool b40), (12, .pointer (some ⟨p12, 0, none⟩)), (16, Value.int .i64 (k : Nat))]) (fun k => [(p12, Obj.cells [Value.string r.tag, .bool r.must, .bool r.once, .string r.i0, .string r.i1, .string r.codes, .string r.single].toArray 27), (p7, Obj.cells [Value.string f.tag, Value.string f.ind, Value.string f.data, Value.slice B f.subs.length c].toArray 46)]) (fun k => [(w, fun _ => True)]) (fun k => f.subs.length - k) (0) (⟨Nat.zero_le _, by intros; omega⟩) (l_start (by repeat (first | exact Sub.nil | refine Sub.cons rfl ?_)) (fun _ h => h)) ?_
              rintro k ⟨hk, hno⟩
              refine w_seq ?_
              refine w_seq ?_
              refine rg_text ?_
              refine x_val rfl rfl rfl (v_move rfl) ?_
              refine x_val rfl rfl rfl (v_fieldAddr (off' := 3) Try.underlying46 rfl sz44 (by decide) rfl rfl) ?_
              refine x_val rfl rfl rfl (v_load Try.underlying44 rfl rfl (by first | exact at_ownL (.head _) rfl | exact at_ownL (.tail _ (.head _)) rfl | exact at_ownL (.tail _ (.tail _ (.head _))) rfl | (apply at_ownL; ((repeat (first | exact List.Mem.head _ | apply List.Mem.tail | apply List.mem_append_right))); rfl) | (refine at_ro (by first | exact .head _ | exact .tail _ (.head _) | exact .tail _ (.tail _ (.head _)) | simp) ?_ (by assumption); trivial))) ?_
              refine x_val rfl rfl rfl (v_len_slice Try.underlying44 rfl) ?_
              refine x_bool rfl rfl rfl (v_lss rfl rfl) ?_
              intro b139 hb139
              refine x_end ?_
              refine t_norm ?_
              refine w_cond rfl (fun hc139 => ?_) (fun hc139 => ?_)
              · simp only [hb139, decide_eq_true_eq, decide_eq_false_iff_not, Bool.and_eq_true, Bool.or_eq_true, Bool.and_eq_false_iff, Bool.or_eq_false_iff, Bool.not_eq_true', Bool.not_eq_false', ne_eq, Decidable.not_not] at hc139
                obtain ⟨bsk, osk, hvsk, hcsk⟩ := sb_at hsb (show k < f.subs.length by omega)
                refine w_skip ?_
                refine t_norm ?_
                refine w_seq ?_
                refine w_block ?_
                refine w_seq ?_
                refine rg_draw 10 [(true, 0), (true, 1), (true, 2), (true, 3), (true, 4), (true, 5), (true, 6), (true, 7), (true, 8), (true, 9)] (by kernel_rfl) (by kernel_rfl) ?_
                refine x_val rfl rfl rfl (v_fieldAddr (off' := 5) Try.underlying27 rfl sz9 (by decide) rfl rfl) ?_
                refine x_val rfl rfl rfl (v_load Try.underlying9 rfl rfl (by first | exact at_ownL (.head _) rfl | exact at_ownL (.tail _ (.head _)) rfl | exact at_ownL (.tail _ (.tail _ (.head _))) rfl | (apply at_ownL; ((repeat (first | exact List.Mem.head _ | apply List.Mem.tail | apply List.mem_append_right))); rfl) | (refine at_ro (by first | exact .head _ | exact .tail _ (.head _) | exact .tail _ (.tail _ (.head _)) | simp) ?_ (by assumption); trivial))) ?_
                refine x_val rfl rfl rfl (v_fieldAddr (off' := 3) Try.underlying46 rfl sz44 (by decide) rfl rfl) ?_
                refine x_val rfl rfl rfl (v_load Try.underlying44 rfl rfl (by first | exact at_ownL (.head _) rfl | exact at_ownL (.tail _ (.head _)) rfl | exact at_ownL (.tail _ (.tail _ (.head _))) rfl | (apply at_ownL; ((repeat (first | exact List.Mem.head _ | apply List.Mem.tail | apply List.mem_append_right))); rfl) | (refine at_ro (by first | exact .head _ | exact .tail _ (.head _) | exact .tail _ (.tail _ (.head _)) | simp) ?_ (by assumption); trivial))) ?_
                refine x_val rfl rfl rfl (v_move rfl) ?_
                refine x_val rfl rfl rfl (v_indexAddr Try.underlying44 sz48 (congrArg (fun A => some (Value.slice A f.subs.length c)) hvsk) rfl (by first | omega | (dsimp only; omega)) rfl) ?_
                refine x_val rfl rfl rfl (v_fieldAddr Try.underlying48 rfl sz5 (by decide) rfl rfl) ?_
                refine x_val rfl rfl rfl (v_load Try.underlying5 rfl rfl (at_ro (.head _) trivial (hcsk 0 (by show 0 < 2; omega)))) ?_
                refine x_callb rfl rfl rfl Try.func40 (by kernel_rfl) rfl (fun w1 hw1 => c40 _ _ w1 hok0.2.2.2.1) ?_
                intro b150 hb150
                refine x_val rfl rfl rfl (v_assign rfl) ?_
                refine x_end ?_
                refine t_norm ?_
                refine w_seq ?_
                refine rg_text ?_
                refine x_val rfl rfl rfl (v_move rfl) ?_
                refine x_bool rfl rfl rfl (v_not rfl) ?_
                intro b152 hb152
                refine x_end ?_
                refine t_norm ?_
                refine w_cond rfl (fun hc152 => ?_) (fun hc152 => ?_)
                · have hcd : hasB r.codes (cdAt f.subs k) = false := by rw [cdAt_eq (by omega), ← hb150]; rw [hb152] at hc152; simpa using hc152
                  refine w_seq ?_
                  refine rg_text ?_
                  refine x_val rfl rfl rfl (v_assign rfl) ?_
                  refine x_end ?_
                  refine t_norm ?_
                  refine w_ret ?_
                  refine b_ret ?_
                  refine t_ret ?_
                  refine t_ret ?_
                  refine b_ret ?_
                  refine t_ret ?_
                  refine ret1 rfl rfl (fun w' hm => ⟨?_, hm.base (by simp)⟩)
                  rw [hfp, tpb_at (j := 2) (by decide) (by rw [tst_eq (by decide) hcc]; exact any_cd (p := fun c => !hasB r.codes c) (show k < _ by omega) (by rw [hcd]; rfl)) (fun i hi => by rcases (by omega : i = 0 ∨ i = 1) with rfl | rfl; (· exact h0); exact h1)]; rfl
                · have hcd : hasB r.codes (cdAt f.subs k) = true := by rw [cdAt_eq (by omega), ← hb150]; rw [hb152] at hc152; simpa using hc152
                  refine w_skip ?_
                  refine b_norm ?_
                  refine t_norm ?_
                  refine rg_text ?_
                  refine x_val rfl rfl rfl (v_move rfl) ?_
                  refine x_val rfl rfl rfl (v_addi rfl rfl rfl (by first | omega | (dsimp only; omega))) ?_
                  refine x_val rfl rfl rfl (v_assign rfl) ?_
                  refine x_end ?_
                  exact l_norm (k + 1) ⟨by omega, fun j hjk => by rcases Nat.lt_succ_iff_lt_or_eq.1 hjk with h | rfl; (· exact hno j h); exact hcd⟩ (by omega) (by repeat (first | exact Sub.nil | refine Sub.cons rfl ?_)) (fun _ h => h)
              · simp only [hb139, decide_eq_true_eq, decide_eq_false_iff_not, Bool.and_eq_true, Bool.or_eq_true, Bool.and_eq_false_iff, Bool.or_eq_false_iff, Bool.not_eq_true', Bool.not_eq_false', ne_eq, Decidable.not_not] at hc139
                have h2 : tst r fs f n 2 = false := by rw [tst_eq (by decide) hcc]; exact any_cd_no (p := fun c => !hasB r.codes c) (fun j hj => by rw [hno j (by omega)]; rfl)
                refine w_exit ?_
                refine t_exit ?_
                refine t_exit ?_
                refine b_hit ?_
                refine t_norm ?_
                refine w_seq ?_
                refine w_seq ?_
                refine rg_text ?_
                refine x_val rfl rfl rfl (v_assign rfl) ?_
                refine x_end ?_
                refine t_norm ?_
                refine w_block ?_
                refine w_loop (σ := Nat) (fun k => k ≤ f.subs.length ∧ (∀ j, j < k → ¬ dupAt r.single f.subs j)) (fun k => [(0, .slice A0 rs.length c0), (1, .slice A1 fs.length c1), (2, Value.int .i64 (n : Nat)), (7, .pointer (some ⟨p7, 0, none⟩)), (8, .bool b40), (12, .pointer (some ⟨p12, 0, none⟩)), (18, Value.int .i64 (k : Nat))]) (fun k => [(p12, Obj.cells [Value.string r.tag, .bool r.must, .bool r.once, .string r.i0, .string r.i1, .string r.codes, .string r.single].toArray 27), (p7, Obj.cells [Value.string f.tag, Value.string f.ind, Value.string f.data, Value.slice B f.subs.length c].toArray 46)]) (fun k => [(w, fun _ => True)]) (fun k => f.subs.length - k) (0) (⟨Nat.zero_le _, by intros; omega⟩) (l_start (by repeat (first | exact Sub.nil | refine Sub.cons rfl ?_)) (fun _ h => h)) ?_
                rintro k ⟨hk, hno⟩
                refine w_seq ?_
                refine w_seq ?_
                refine rg_text ?_
                refine x_val rfl rfl rfl (v_move rfl) ?_
                refine x_val rfl rfl rfl (v_fieldAddr (off' := 3) Try.underlying46 rfl sz44 (by decide) rfl rfl) ?_
                refine x_val rfl rfl rfl (v_load Try.underlying44 rfl rfl (by first | exact at_ownL (.head _) rfl | exact at_ownL (.tail _ (.head _)) rfl | exact at_ownL (.tail _ (.tail _ (.head _))) rfl | (apply at_ownL; ((repeat (first | exact List.Mem.head _ | apply List.Mem.tail | apply List.mem_append_right))); rfl) | (refine at_ro (by first | exact .head _ | exact .tail _ (.head _) | exact .tail _ (.tail _ (.head _)) | simp) ?_ (by assumption); trivial))) ?_
                refine x_val rfl rfl rfl (v_len_slice Try.underlying44 rfl) ?_
                refine x_bool rfl rfl rfl (v_lss rfl rfl) ?_
                intro b157 hb157
                refine x_end ?_
                refine t_norm ?_
                refine w_cond rfl (fun hc157 => ?_) (fun hc157 => ?_)
                · simp only [hb157, decide_eq_true_eq, decide_eq_false_iff_not, Bool.and_eq_true, Bool.or_eq_true, Bool.and_eq_false_iff, Bool.or_eq_false_iff, Bool.not_eq_true', Bool.not_eq_false', ne_eq, Decidable.not_not] at hc157
                  obtain ⟨bsk, osk, hvsk, hcsk⟩ := sb_at hsb (show k < f.subs.length by omega)
                  refine w_skip ?_
                  refine t_norm ?_
                  refine w_seq ?_
                  refine w_block ?_
                  refine w_seq ?_
                  refine rg_draw 10 [(true, 0), (true, 1), (true, 2), (true, 3), (true, 4), (true, 5), (true, 6), (true, 7), (true, 8), (true, 9)] (by kernel_rfl) (by kernel_rfl) ?_
                  refine x_val rfl rfl rfl (v_fieldAddr (off' := 6) Try.underlying27 rfl sz9 (by decide) rfl rfl) ?_
                  refine x_val rfl rfl rfl (v_load Try.underlying9 rfl rfl (by first | exact at_ownL (.head _) rfl | exact at_ownL (.tail _ (.head _)) rfl | exact at_ownL (.tail _ (.tail _ (.head _))) rfl | (apply at_ownL; ((repeat (first | exact List.Mem.head _ | apply List.Mem.tail | apply List.mem_append_right))); rfl) | (refine at_ro (by first | exact .head _ | exact .tail _ (.head _) | exact .tail _ (.tail _ (.head _)) | simp) ?_ (by assumption); trivial))) ?_
                  refine x_val rfl rfl rfl (v_fieldAddr (off' := 3) Try.underlying46 rfl sz44 (by decide) rfl rfl) ?_
                  refine x_val rfl rfl rfl (v_load Try.underlying44 rfl rfl (by first | exact at_ownL (.head _) rfl | exact at_ownL (.tail _ (.head _)) rfl | exact at_ownL (.tail _ (.tail _ (.head _))) rfl | (apply at_ownL; ((repeat (first | exact List.Mem.head _ | apply List.Mem.tail | apply List.mem_append_right))); rfl) | (refine at_ro (by first | exact .head _ | exact .tail _ (.head _) | exact .tail _ (.tail _ (.head _)) | simp) ?_ (by assumption); trivial))) ?_
                  refine x_val rfl rfl rfl (v_move rfl) ?_
                  refine x_val rfl rfl rfl (v_indexAddr Try.underlying44 sz48 (congrArg (fun A => some (Value.slice A f.subs.length c)) hvsk) rfl (by first | omega | (dsimp only; omega)) rfl) ?_
                  refine x_val rfl rfl rfl (v_fieldAddr Try.underlying48 rfl sz5 (by decide) rfl rfl) ?_
                  refine x_val rfl rfl rfl (v_load Try.underlying5 rfl rfl (at_ro (.head _) trivial (hcsk 0 (by show 0 < 2; omega)))) ?_
                  refine x_callb rfl rfl rfl Try.func40 (by kernel_rfl) rfl (fun w1 hw1 => c40 _ _ w1 hok0.2.2.2.2) ?_
                  intro b168 hb168
                  refine x_val rfl rfl rfl (v_assign rfl) ?_
                  refine x_end ?_
                  refine t_norm ?_
                  refine w_seq ?_
                  refine rg_text ?_
                  refine x_val rfl rfl rfl (v_assign rfl) ?_
                  refine x_end ?_
                  refine t_norm ?_
                  refine w_block ?_
                  refine w_loop (σ := Nat) (fun i => i ≤ k ∧ (hasB r.single (cdAt f.subs k) = true → ∀ j, j < i → cdAt f.subs j ≠ cdAt f.subs k)) (fun i => [(0, .slice A0 rs.length c0), (1, .slice A1 fs.length c1), (2, Value.int .i64 (n : Nat)), (7, .pointer (some ⟨p7, 0, none⟩)), (8, .bool b40), (12, .pointer (some ⟨p12, 0, none⟩)), (18, Value.int .i64 (k : Nat)), (19, .bool b168), (20, Value.int .i64 (i : Nat))]) (fun i => [(p12, Obj.cells [Value.string r.tag, .bool r.must, .bool r.once, .string r.i0, .string r.i1, .string r.codes, .string r.single].toArray 27), (p7, Obj.cells [Value.string f.tag, Value.string f.ind, Value.string f.data, Value.slice B f.subs.length c].toArray 46)]) (fun i => [(w, fun _ => True)]) (fun i => k - i) (0) (⟨Nat.zero_le _, by intros; omega⟩) (l_start (by repeat (first | exact Sub.nil | refine Sub.cons rfl ?_)) (fun _ h => h)) ?_
                  rintro i ⟨hi, hni⟩
                  refine w_seq ?_
                  refine w_seq ?_
                  refine rg_text ?_
                  refine x_val rfl rfl rfl (v_move rfl) ?_
                  refine x_val rfl rfl rfl (v_move rfl) ?_
                  refine x_bool rfl rfl rfl (v_lss rfl rfl) ?_
                  intro b171 hb171
                  refine x_val rfl rfl rfl (v_move rfl) ?_
                  refine x_if [] rfl rfl rfl rfl rfl (fun hg => by obtain ⟨hg0, _⟩ := hg; subst hg0; (try simp only [List.cons_append, List.nil_append, gvl_nil, gvl_t, gvl_f]); exact v_move rfl) ?_
                  refine x_bool rfl rfl rfl (v_and rfl rfl) ?_
                  intro b174 hb174
                  refine x_end ?_
                  refine t_norm ?_
                  refine w_cond rfl (fun hc174 => ?_) (fun hc174 => ?_)
                  · simp only [hb174, hb168, hb171, decide_eq_true_eq, decide_eq_false_iff_not, Bool.and_eq_true, Bool.or_eq_true, Bool.and_eq_false_iff, Bool.or_eq_false_iff, Bool.not_eq_true', Bool.not_eq_false', ne_eq, Decidable.not_not] at hc174
                    obtain ⟨bsi, osi, hvsi, hcsi⟩ := sb_at hsb (show i < f.subs.length by omega)
                    refine w_skip ?_
                    refine t_norm ?_
                    refine w_seq ?_
                    refine w_block ?_
                    refine w_seq ?_
                    refine rg_draw 13 [(true, 0), (true, 1), (true, 2), (true, 3), (true, 4), (true, 5), (true, 6), (true, 7), (true, 8), (true, 9), (true, 10), (true, 11), (true, 12)] (by kernel_rfl) (by kernel_rfl) ?_
                    refine x_val rfl rfl rfl (v_fieldAddr (off' := 3) Try.underlying46 rfl sz44 (by decide) rfl rfl) ?_
                    refine x_val rfl rfl rfl (v_load Try.underlying44 rfl rfl (by first | exact at_ownL (.head _) rfl | exact at_ownL (.tail _ (.head _)) rfl | exact at_ownL (.tail _ (.tail _ (.head _))) rfl | (apply at_ownL; ((repeat (first | exact List.Mem.head _ | apply List.Mem.tail | apply List.mem_append_right))); rfl) | (refine at_ro (by first | exact .head _ | exact .tail _ (.head _) | exact .tail _ (.tail _ (.head _)) | simp) ?_ (by assumption); trivial))) ?_
                    refine x_val rfl rfl rfl (v_move rfl) ?_
                    refine x_val rfl rfl rfl (v_indexAddr Try.underlying44 sz48 (congrArg (fun A => some (Value.slice A f.subs.length c)) hvsi) rfl (by first | omega | (dsimp only; omega)) rfl) ?_
                    refine x_val rfl rfl rfl (v_fieldAddr Try.underlying48 rfl sz5 (by decide) rfl rfl) ?_
                    refine x_val rfl rfl rfl (v_load Try.underlying5 rfl rfl (at_ro (.head _) trivial (hcsi 0 (by show 0 < 2; omega)))) ?_
                    refine x_val rfl rfl rfl (v_fieldAddr (off' := 3) Try.underlying46 rfl sz44 (by decide) rfl rfl) ?_
                    refine x_val rfl rfl rfl (v_load Try.underlying44 rfl rfl (by first | exact at_ownL (.head _) rfl | exact at_ownL (.tail _ (.head _)) rfl | exact at_ownL (.tail _ (.tail _ (.head _))) rfl | (apply at_ownL; ((repeat (first | exact List.Mem.head _ | apply List.Mem.tail | apply List.mem_append_right))); rfl) | (refine at_ro (by first | exact .head _ | exact .tail _ (.head _) | exact .tail _ (.tail _ (.head _)) | simp) ?_ (by assumption); trivial))) ?_
                    refine x_val rfl rfl rfl (v_move rfl) ?_
                    refine x_val rfl rfl rfl (v_indexAddr Try.underlying44 sz48 (congrArg (fun A => some (Value.slice A f.subs.length c)) hvsk) rfl (by first | omega | (dsimp only; omega)) rfl) ?_
                    refine x_val rfl rfl rfl (v_fieldAddr Try.underlying48 rfl sz5 (by decide) rfl rfl) ?_
                    refine x_val rfl rfl rfl (v_load Try.underlying5 rfl rfl (at_ro (.head _) trivial (hcsk 0 (by show 0 < 2; omega)))) ?_
                    refine x_bool rfl rfl rfl (v_eql rfl rfl) ?_
                    intro b189 hb189
                    refine x_end ?_
                    refine t_norm ?_
                    refine w_cond rfl (fun hc189 => ?_) (fun hc189 => ?_)
                    · simp only [hb189, decide_eq_true_eq, decide_eq_false_iff_not, Bool.and_eq_true, Bool.or_eq_true, Bool.and_eq_false_iff, Bool.or_eq_false_iff, Bool.not_eq_true', Bool.not_eq_false', ne_eq, Decidable.not_not] at hc189
                      have hce : cdAt f.subs i = cdAt f.subs k := by rw [cdAt_eq (by omega), cdAt_eq (by omega)]; exact UInt8.toNat_inj.1 (by omega)
                      refine w_seq ?_
                      refine rg_text ?_
                      refine x_val rfl rfl rfl (v_assign rfl) ?_
                      refine x_end ?_
                      refine t_norm ?_
                      refine w_ret ?_
                      refine b_ret ?_
                      refine t_ret ?_
                      refine t_ret ?_
                      refine b_ret ?_
                      refine b_ret ?_
                      refine t_ret ?_
                      refine t_ret ?_
                      refine b_ret ?_
                      refine t_ret ?_
                      refine ret1 rfl rfl (fun w' hm => ⟨?_, hm.base (by simp)⟩)
                      rw [hfp, tpb_at (j := 3) (by decide) (by rw [tst_eq (by decide) hcc]; exact dup_yes (show k < _ by omega) ⟨⟨i, by omega, hce⟩, by rw [cdAt_eq (by omega)]; exact hc174.2⟩) (fun i hi => by rcases (by omega : i = 0 ∨ i = 1 ∨ i = 2) with rfl | rfl | rfl; (· exact h0); (· exact h1); exact h2)]; rfl
                    · simp only [hb189, decide_eq_true_eq, decide_eq_false_iff_not, Bool.and_eq_true, Bool.or_eq_true, Bool.and_eq_false_iff, Bool.or_eq_false_iff, Bool.not_eq_true', Bool.not_eq_false', ne_eq, Decidable.not_not] at hc189
                      have hce : cdAt f.subs i ≠ cdAt f.subs k := by rw [cdAt_eq (by omega), cdAt_eq (by omega)]; exact fun e => hc189 (by rw [e])
                      refine w_skip ?_
                      refine b_norm ?_
                      refine t_norm ?_
                      refine rg_text ?_
                      refine x_val rfl rfl rfl (v_move rfl) ?_
                      refine x_val rfl rfl rfl (v_addi rfl rfl rfl (by first | omega | (dsimp only; omega))) ?_
                      refine x_val rfl rfl rfl (v_assign rfl) ?_
                      refine x_end ?_
                      exact l_norm (i + 1) ⟨by omega, fun hh j hjk => by rcases Nat.lt_succ_iff_lt_or_eq.1 hjk with h | rfl; (· exact hni hh j h); exact hce⟩ (by omega) (by repeat (first | exact Sub.nil | refine Sub.cons rfl ?_)) (fun _ h => h)
                  · simp only [hb174, hb168, hb171, decide_eq_true_eq, decide_eq_false_iff_not, Bool.and_eq_true, Bool.or_eq_true, Bool.and_eq_false_iff, Bool.or_eq_false_iff, Bool.not_eq_true', Bool.not_eq_false', ne_eq, Decidable.not_not] at hc174
                    refine w_exit ?_
                    refine t_exit ?_
                    refine t_exit ?_
                    refine b_hit ?_
                    refine b_norm ?_
                    refine t_norm ?_
                    refine rg_text ?_
                    refine x_val rfl rfl rfl (v_move rfl) ?_
                    refine x_val rfl rfl rfl (v_addi rfl rfl rfl (by first | omega | (dsimp only; omega))) ?_
                    refine x_val rfl rfl rfl (v_assign rfl) ?_
                    refine x_end ?_
                    exact l_norm (k + 1) ⟨by omega, fun j hjk => by rcases Nat.lt_succ_iff_lt_or_eq.1 hjk with h | rfl; (· exact hno j h); exact fun ⟨⟨i2, hi2, he⟩, hh⟩ => hni hh i2 (by rcases hc174 with h | h; (· omega); rw [← cdAt_eq (by omega), hh] at h; cases h) he⟩ (by omega) (by repeat (first | exact Sub.nil | refine Sub.cons rfl ?_)) (fun _ h => h)
                · simp only [hb157, decide_eq_true_eq, decide_eq_false_iff_not, Bool.and_eq_true, Bool.or_eq_true, Bool.and_eq_false_iff, Bool.or_eq_false_iff, Bool.not_eq_true', Bool.not_eq_false', ne_eq, Decidable.not_not] at hc157
                  have h3 : tst r fs f n 3 = false := by rw [tst_eq (by decide) hcc]; exact dup_no (fun j hj => hno j (by omega))
                  refine w_exit ?_
                  refine t_exit ?_
                  refine t_exit ?_
                  refine b_hit ?_
                  refine t_norm ?_
                  refine w_seq ?_
                  refine rg_text ?_
                  refine x_val rfl rfl rfl (v_assign rfl) ?_
                  refine x_end ?_
                  refine t_norm ?_
                  refine w_ret ?_
                  refine ret1 rfl rfl (fun w' hm => ⟨?_, hm.base (by simp)⟩)
                  rw [hfp, tpb_none (lt4 h0 h1 h2 h3)]; rfl

end Go.Proofs.Ytmihkbciilloaaa
