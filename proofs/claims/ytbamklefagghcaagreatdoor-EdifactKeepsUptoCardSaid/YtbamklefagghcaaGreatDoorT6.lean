/- Of the proofs of YtbamklefagghcaaGreatDoor: Xb Xc Xd Xe Xf Xg Xh Xi Xj Xk Xx Xy, put together. -/
import Derived.Test.YtbamklefagghcaaGreatDoorT5
import Derived.Test.YtbamklefagghcaaGreatDoorT2
import Derived.Shelf.Strconv.ErrVarAll
import Derived.Lib.AtoiAllCases
import Derived.Lay
import Derived.LaidSub
import Derived.Lib.LaidTab
import Derived.Stop.LaidErr
import Derived.Deep.DeepHandedRow
import Derived.SevenTiedAt
import Derived.Test.YtbamklefagghcaaGreatDoorT1
import Derived.Test.YtbamklefagghcaaGreatDoorT3
import Derived.Test.YtbamklefagghcaaGreatDoorT4
namespace Go.Proofs.YtbamklefagghcaaGreatDoor
open Go.RowKit Go.PK
set_option linter.unusedVariables false
set_option linter.unusedSimpArgs false
theorem itoa_ok {n : Int} (h : in64 n) : okS (itoaS n) := okS_small (Nat.le_trans (itoaS_size h) (by decide))
theorem recT_sz {s n : Int} (h1 : in64 s) (h2 : in64 n) : (recT s n).size ≤ 43 := by
  have a := itoaS_size h1; have b := itoaS_size h2
  unfold recT; rw [ByteArray.size_append, ByteArray.size_append]
  have e : (⟨#[46]⟩ : ByteArray).size = 1 := rfl
  omega
theorem recT_ok {s n : Int} (h1 : in64 s) (h2 : in64 n) : okS (recT s n) := okS_small (Nat.le_trans (recT_sz h1 h2) (by decide))
set_option maxRecDepth 100000 in
theorem c_header (name : ByteArray) (w : World) (hok : okS name) :
    Calls Tryz.prog 35 #[.string name] w fun e w' => ∃ u, e = .returned (.agg #[.string (⟨#[85, 78, 72]⟩), u]) ∧ Later w w' ∧ sliceRd (tySlice tyStr) (fun b => w.heap.size ≤ b) w' u ([[⟨#[49]⟩], [name, ⟨#[68]⟩, ⟨#[57, 54, 65]⟩, ⟨#[85, 78]⟩]]) := by
  refine enter (vs := [.string name]) Tryz.func35 rfl Tryz.ntmps35 rfl ?_
  refine w_seq ?_
  refine rg_text ?_
  refine x_alloc rfl rfl rfl zr49 ?_
  intro p2
  refine x_end ?_
  refine t_norm ?_
  refine w_seq ?_
  refine rg_text ?_
  refine x_buildSliceL (cs := [Value.string (⟨#[49]⟩)]) rfl rfl rfl Tryz.underlying54 sz9 zr9 rfl rfl rfl ?_
  intro p3
  refine x_val rfl rfl rfl (v_move rfl) ?_
  refine x_buildSliceL (cs := [Value.string (name), Value.string (⟨#[68]⟩), Value.string (⟨#[57, 54, 65]⟩), Value.string (⟨#[85, 78]⟩)]) rfl rfl rfl Tryz.underlying54 sz9 zr9 rfl rfl rfl ?_
  intro p5
  refine x_buildSliceL (cs := [Value.slice (some ⟨p3, 0, none⟩) 1 1, .slice (some ⟨p5, 0, none⟩) 4 4]) rfl rfl rfl Tryz.underlying47 sz54 zr54 rfl rfl rfl ?_
  intro p6
  refine x_val rfl rfl rfl (v_buildL (places := [(0, 1), (1, 1)]) Tryz.underlying49 zr49 (by kernel_rfl) rfl rfl) ?_
  refine x_store0 [(p6, _), (p5, _), (p3, _)] rfl rfl rfl rfl sz49 rfl rfl ?_
  refine x_end ?_
  refine t_norm ?_
  refine w_ret ?_
  refine retc (cs := #[Value.string (⟨#[85, 78, 72]⟩), .slice (some ⟨p6, 0, none⟩) 2 2]) rfl rfl (by repeat (first | exact List.Mem.head _ | apply List.Mem.tail)) Tryz.underlying49 rfl sz49 (fun w' hm => ⟨_, rfl, hm.base (by simp), ?_⟩)
  exact (lits_new (T := tySlice tyStr) (e := 54) (b := p6) [[Value.slice (some ⟨p3, 0, none⟩) 1 1], [Value.slice (some ⟨p5, 0, none⟩) 4 4]] (xs := [[⟨#[49]⟩], [name, ⟨#[68]⟩, ⟨#[57, 54, 65]⟩, ⟨#[85, 78]⟩]]) hm (by simp) (by repeat (first | exact List.Mem.head _ | apply List.Mem.tail)) rfl (by simp) ⟨⟨_, rfl, (lits_new (T := tyStr) (e := 9) (b := p3) [[Value.string (⟨#[49]⟩)]] (xs := [⟨#[49]⟩]) hm (by simp) (by repeat (first | exact List.Mem.head _ | apply List.Mem.tail)) rfl (by simp) ⟨⟨rfl, (okS_small (by decide))⟩, trivial⟩)⟩, ⟨_, rfl, (lits_new (T := tyStr) (e := 9) (b := p5) [[Value.string (name)], [Value.string (⟨#[68]⟩)], [Value.string (⟨#[57, 54, 65]⟩)], [Value.string (⟨#[85, 78]⟩)]] (xs := [name, ⟨#[68]⟩, ⟨#[57, 54, 65]⟩, ⟨#[85, 78]⟩]) hm (by simp) (by repeat (first | exact List.Mem.head _ | apply List.Mem.tail)) rfl (by simp) ⟨⟨rfl, hok⟩, ⟨rfl, (okS_small (by decide))⟩, ⟨rfl, (okS_small (by decide))⟩, ⟨rfl, (okS_small (by decide))⟩, trivial⟩)⟩, trivial⟩)
set_option maxRecDepth 100000 in
theorem c_pair (tag x y : ByteArray) (w : World) (h1 : okS x) (h2 : okS y) :
    Calls Tryz.prog 38 #[.string tag, .string x, .string y] w fun e w' => ∃ u, e = .returned (.agg #[.string (tag), u]) ∧ Later w w' ∧ sliceRd (tySlice tyStr) (fun b => w.heap.size ≤ b) w' u ([[x, y]]) := by
  refine enter (vs := [.string tag, .string x, .string y]) Tryz.func38 rfl Tryz.ntmps38 rfl ?_
  refine w_seq ?_
  refine rg_text ?_
  refine x_alloc rfl rfl rfl zr49 ?_
  intro p6
  refine x_end ?_
  refine t_norm ?_
  refine w_seq ?_
  refine rg_text ?_
  refine x_val rfl rfl rfl (v_move rfl) ?_
  refine x_val rfl rfl rfl (v_move rfl) ?_
  refine x_val rfl rfl rfl (v_move rfl) ?_
  refine x_buildSliceL (cs := [Value.string (x), Value.string (y)]) rfl rfl rfl Tryz.underlying54 sz9 zr9 rfl rfl rfl ?_
  intro p10
  refine x_buildSliceL (cs := [Value.slice (some ⟨p10, 0, none⟩) 2 2]) rfl rfl rfl Tryz.underlying47 sz54 zr54 rfl rfl rfl ?_
  intro p11
  refine x_val rfl rfl rfl (v_buildL (places := [(0, 1), (1, 1)]) Tryz.underlying49 zr49 (by kernel_rfl) rfl rfl) ?_
  refine x_store0 [(p11, _), (p10, _)] rfl rfl rfl rfl sz49 rfl rfl ?_
  refine x_end ?_
  refine t_norm ?_
  refine w_ret ?_
  refine retc (cs := #[Value.string (tag), .slice (some ⟨p11, 0, none⟩) 1 1]) rfl rfl (by repeat (first | exact List.Mem.head _ | apply List.Mem.tail)) Tryz.underlying49 rfl sz49 (fun w' hm => ⟨_, rfl, hm.base (by simp), ?_⟩)
  exact (lits_new (T := tySlice tyStr) (e := 54) (b := p11) [[Value.slice (some ⟨p10, 0, none⟩) 2 2]] (xs := [[x, y]]) hm (by simp) (by repeat (first | exact List.Mem.head _ | apply List.Mem.tail)) rfl (by simp) ⟨⟨_, rfl, (lits_new (T := tyStr) (e := 9) (b := p10) [[Value.string (x)], [Value.string (y)]] (xs := [x, y]) hm (by simp) (by repeat (first | exact List.Mem.head _ | apply List.Mem.tail)) rfl (by simp) ⟨⟨rfl, h1⟩, ⟨rfl, h2⟩, trivial⟩)⟩, trivial⟩)
set_option maxRecDepth 100000 in
theorem c_one {v : Value} {es : List ByteArray} {D : Nat → Prop} (tag : ByteArray) (w : World) (hes : sliceRd tyStr D w v es) (hn : es.length ≤ 1000) :
    Calls Tryz.prog 36 #[.string tag, v] w fun e w' => ∃ u, e = .returned (.agg #[.string (tag), u]) ∧ Later w w' ∧ sliceRd (tySlice tyStr) (fun b => w.heap.size ≤ b) w' u (es.map fun e => [e]) := by
  obtain ⟨A, cp, rfl, hlc, hmx, _⟩ := id hes
  refine enter (vs := [.string tag, Value.slice A es.length cp]) Tryz.func36 rfl Tryz.ntmps36 rfl ?_
  refine w_seq ?_
  refine rg_text ?_
  refine x_alloc rfl rfl rfl zr49 ?_
  intro p4
  refine x_end ?_
  refine t_norm ?_
  refine w_seq ?_
  refine rg_text ?_
  refine x_val rfl rfl rfl (v_move rfl) ?_
  refine x_val rfl rfl rfl (v_buildL (places := [(0, 1), (1, 1)]) Tryz.underlying49 zr49 (by kernel_rfl) rfl rfl) ?_
  refine x_alloc rfl rfl rfl zr49 ?_
  intro p5
  refine x_store0 [] rfl rfl rfl rfl sz49 rfl rfl ?_
  refine x_end ?_
  refine t_norm ?_
  refine w_seq ?_
  refine w_seq ?_
  refine rg_text ?_
  refine x_val rfl rfl rfl (v_assign rfl) ?_
  refine x_end ?_
  refine t_norm ?_
  refine w_block ?_
  refine w_fix ((p5, Obj.cells [Value.string tag, rowV none (0)].toArray 49) :: (rowO 54 none ++ [(p4, Obj.cells [Value.string ⟨#[]⟩, .slice none 0 0].toArray 49)])) (List.Sublist.refl _) (fun w0 hm0 => ?_)
  refine w_loop (σ := Nat × RowS × World) (fun x => x.1 ≤ es.length ∧ RowT (tySlice tyStr) (newD w ((p5, Obj.cells [Value.string tag, rowV x.2.1 (x.1)].toArray 49) :: (rowO 54 x.2.1 ++ [(p4, Obj.cells [Value.string ⟨#[]⟩, .slice none 0 0].toArray 49)]))) x.2.2 x.2.1 ((es.take x.1).map fun e => [e])) (fun x => [(4, Value.pointer (some ⟨p4, 0, none⟩)), (5, Value.pointer (some ⟨p5, 0, none⟩)), (1, Value.slice A es.length cp), (6, Value.int .i64 (x.1 : Nat))]) (fun x => (p5, Obj.cells [Value.string tag, rowV x.2.1 (x.1)].toArray 49) :: (rowO 54 x.2.1 ++ [(p4, Obj.cells [Value.string ⟨#[]⟩, .slice none 0 0].toArray 49)])) (fun x => (x.2.2, notOwn ((p5, Obj.cells [Value.string tag, rowV x.2.1 (x.1)].toArray 49) :: (rowO 54 x.2.1 ++ [(p4, Obj.cells [Value.string ⟨#[]⟩, .slice none 0 0].toArray 49)]))) :: [(w, fun _ => True)]) (fun x => es.length - x.1) ((0, none, w0)) (⟨Nat.zero_le _, RowT.nil⟩) (l_start (by repeat (first | exact Sub.nil | refine Sub.cons rfl ?_)) (fun _ h => h)) ?_
  rintro ⟨k, R, ws⟩ ⟨hk, hT⟩
  refine w_state ([(4, Value.pointer (some ⟨p4, 0, none⟩)), (5, Value.pointer (some ⟨p5, 0, none⟩)), (1, Value.slice A es.length cp), (6, Value.int .i64 (k : Nat))]) ((p5, Obj.cells [Value.string tag, rowV R (k)].toArray 49) :: (rowO 54 R ++ [(p4, Obj.cells [Value.string ⟨#[]⟩, .slice none 0 0].toArray 49)])) ((ws, notOwn ((p5, Obj.cells [Value.string tag, rowV R (k)].toArray 49) :: (rowO 54 R ++ [(p4, Obj.cells [Value.string ⟨#[]⟩, .slice none 0 0].toArray 49)]))) :: [(w, fun _ => True)]) ?_
  dsimp only at hk hT
  have hln : ((es.take k).map fun e => [e]).length = k := by simp; omega
  refine w_seq ?_
  refine w_seq ?_
  refine rg_text ?_
  refine x_val rfl rfl rfl (v_move rfl) ?_
  refine x_val rfl rfl rfl (v_move rfl) ?_
  refine x_val rfl rfl rfl (v_len_slice Tryz.underlying54 rfl) ?_
  refine x_bool rfl rfl rfl (v_lss rfl rfl) ?_
  intro b12 hb12
  refine x_end ?_
  refine t_norm ?_
  refine w_cond rfl (fun hc12 => ?_) (fun hc12 => ?_)
  · simp only [hb12, decide_eq_true_eq, decide_eq_false_iff_not, Bool.and_eq_true, Bool.or_eq_true, Bool.and_eq_false_iff, Bool.or_eq_false_iff, Bool.not_eq_true', Bool.not_eq_false', ne_eq, Decidable.not_not] at hc12
    have hkl : k < es.length := by omega
    obtain ⟨b0, o0, hA0, _, hc0, hok0⟩ := s_at hes hkl
    refine w_skip ?_
    refine t_norm ?_
    refine w_seq ?_
    refine w_block ?_
    refine rg_inv ([(p5, Obj.cells [Value.string tag, rowV R (k)].toArray 49)]) 10 (.flt 0 (.flt 1 (.flt 2 (.flt 3 (.flt 4 (.flt 5 (.gr 6 (.gr 7 (.gr 8 (.flt 9 .done) .nil) .nil) .nil))))))) (.cons_cons _ (List.nil_sublist _)) (by kernel_rfl) (by kernel_rfl) ?_
    refine j_val rfl rfl (v_fieldAddr (off' := 1) Tryz.underlying49 rfl sz47 (by decide) rfl rfl) ?_
    refine j_val rfl rfl (v_load Tryz.underlying47 rfl rfl (at_ownL (vs := [Value.string tag, rowV R k]) (.head _) rfl)) ?_
    refine j_val rfl rfl (v_move rfl) ?_
    refine j_val rfl rfl (v_move rfl) ?_
    refine j_val rfl rfl (v_indexAddr Tryz.underlying54 sz9 (congrArg (fun A => some (Value.slice A es.length cp)) hA0) rfl (by first | omega | (dsimp only; omega)) rfl) ?_
    refine j_val rfl rfl (v_load Tryz.underlying9 rfl rfl (at_ro (List.mem_cons_of_mem _ (.head _)) trivial (by rw [Nat.mul_one]; exact hc0))) ?_
    refine j_gr ?_ j_nil
    refine x_buildSliceL (cs := [Value.string es[k]]) rfl rfl rfl Tryz.underlying54 sz9 zr9 rfl rfl rfl ?_
    intro p21
    refine x_end ?_
    refine j_end (.cons _ (.cons_cons _ (List.nil_sublist _))) ?_
    refine j_gr ?_ j_nil
    refine x_buildSliceL (cs := [Value.slice (some ⟨p21, 0, none⟩) 1 1]) rfl rfl rfl Tryz.underlying47 sz54 zr54 rfl rfl rfl ?_
    intro p22
    refine x_end ?_
    refine j_end (.cons _ (.cons _ (.cons_cons _ (List.nil_sublist _)))) ?_
    refine j_gr ?_ j_nil
    obtain ⟨css, hcl, hrow, hrd⟩ := hT
    rw [hln] at hcl hrow
    refine x_append (e := 54) [(p22, Obj.cells [Value.slice (some ⟨p21, 0, none⟩) 1 1].toArray 54), (p21, Obj.cells [Value.string es[k]].toArray 9), (p5, Obj.cells [Value.string tag, rowV R (k)].toArray 49)] (l2 := [(p4, Obj.cells [Value.string ⟨#[]⟩, .slice none 0 0].toArray 49)]) R (len := k) (xs := css.flatten) rfl rfl rfl rfl rfl hrow Tryz.underlying47 ap54 rfl rfl (m := 1) (news := [Value.slice (some ⟨p21, 0, none⟩) 1 1]) (fun i hi => at_ownL (vs := [Value.slice (some ⟨p21, 0, none⟩) 1 1]) (.head _) (by rw [Nat.zero_add]; exact List.getElem?_eq_getElem hi)) rfl (by simp only [maxLen]; omega) (by omega) ?_
    intro R' hR'
    refine x_end ?_
    refine j_end (.cons _ (.cons _ (.cons_cons _ (List.nil_sublist _)))) ?_
    refine j_val rfl rfl (v_fieldAddr (off' := 1) Tryz.underlying49 rfl sz47 (by decide) rfl rfl) ?_
    refine j_done ?_
    refine x_store (cs := [Value.string tag, rowV R k]) (off := 1) [(p22, Obj.cells [Value.slice (some ⟨p21, 0, none⟩) 1 1].toArray 54), (p21, Obj.cells [Value.string es[k]].toArray 9)] rfl rfl rfl rfl sz47 rfl (by show 2 ≤ 2; decide) ?_
    refine x_end ?_
    refine b_norm ?_
    refine t_norm ?_
    refine rg_text ?_
    refine x_val rfl rfl rfl (v_move rfl) ?_
    refine x_val rfl rfl rfl (v_addi rfl rfl rfl (by first | omega | (dsimp only; omega))) ?_
    refine x_val rfl rfl rfl (v_assign rfl) ?_
    refine x_end ?_
    have hsub : ((p5, Obj.cells [Value.string tag, rowV R' (k + 1)].toArray 49) :: (rowO 54 R' ++ [(p4, Obj.cells [Value.string ⟨#[]⟩, .slice none 0 0].toArray 49)])).Sublist ((p22, Obj.cells [Value.slice (some ⟨p21, 0, none⟩) 1 1].toArray 54) :: (p21, Obj.cells [Value.string es[k]].toArray 9) :: ((p5, Obj.cells [Value.string tag, rowV R' (k + 1)].toArray 49) :: (rowO 54 R' ++ [(p4, Obj.cells [Value.string ⟨#[]⟩, .slice none 0 0].toArray 49)]))) := (List.sublist_cons_self _ _).trans (List.sublist_cons_self _ _)
    refine s_fix ((p5, Obj.cells [Value.string tag, rowV R' (k + 1)].toArray 49) :: (rowO 54 R' ++ [(p4, Obj.cells [Value.string ⟨#[]⟩, .slice none 0 0].toArray 49)])) hsub (fun w0 hm0 => ?_)
    have i1 : sliceRd tyStr (newD w ((p5, Obj.cells [Value.string tag, rowV R' (k + 1)].toArray 49) :: (rowO 54 R' ++ [(p4, Obj.cells [Value.string ⟨#[]⟩, .slice none 0 0].toArray 49)]))) w0 (.slice (some ⟨p21, 0, none⟩) 1 1) [es[k]] := lits_own (e := 9) [[Value.string es[k]]] hm0 (.tail _ (.head _)) rfl (by simp) ⟨hm0.newer (p := (p21, Obj.cells [Value.string es[k]].toArray 9)) (by simp) (.tail _ (.head _)), hm0.notIn (l1 := [(p22, Obj.cells [Value.slice (some ⟨p21, 0, none⟩) 1 1].toArray 54), (p21, Obj.cells [Value.string es[k]].toArray 9)]) (List.Sublist.refl _) (.tail _ (.head _))⟩ ⟨⟨rfl, hok0⟩, trivial⟩
    have hT' := snocN (T := tySlice tyStr) (D := newD w ((p5, Obj.cells [Value.string tag, rowV R' (k + 1)].toArray 49) :: (rowO 54 R' ++ [(p4, Obj.cells [Value.string ⟨#[]⟩, .slice none 0 0].toArray 49)]))) (ws := w0) (x := [es[k]]) hln hcl (fun j h1 h2 => (tySlice tyStr).keep (hrd j h1 h2) (Kept.frz hm0 hsub (by simp))) hR' ⟨_, rfl, i1⟩
    exact l_norm (x := (k, R, ws)) (μ := fun q : Nat × RowS × World => es.length - q.1) (k + 1, R', w0) ⟨by dsimp only; omega, by dsimp only; rw [List.take_succ_eq_append_getElem hkl, List.map_append]; exact hT'⟩ (by simp only; omega) (by repeat (first | exact Sub.nil | refine Sub.cons rfl ?_)) (fun w1 h => h.less (List.Sublist.refl _) (fun q hq => by simp at hq ⊢; rcases hq with h | h; (· exact .inl h); simp [h]))
  · simp only [hb12, decide_eq_true_eq, decide_eq_false_iff_not, Bool.and_eq_true, Bool.or_eq_true, Bool.and_eq_false_iff, Bool.or_eq_false_iff, Bool.not_eq_true', Bool.not_eq_false', ne_eq, Decidable.not_not] at hc12
    obtain rfl : k = es.length := by omega
    rw [List.take_length] at hT hln
    refine w_exit ?_
    refine t_exit ?_
    refine t_exit ?_
    refine b_hit ?_
    refine t_norm ?_
    refine w_seq ?_
    refine rg_text ?_
    refine x_val rfl rfl rfl (v_load_blk (e := 49) (fz := (0, 0)) (cs := [Value.string tag, rowV R es.length].toArray) Tryz.underlying49 rfl rfl (.head _) sz49) ?_
    refine x_store0 ((p5, Obj.cells [Value.string tag, rowV R (es.length)].toArray 49) :: rowO 54 R) rfl rfl rfl rfl sz49 rfl rfl ?_
    refine x_end ?_
    refine t_norm ?_
    refine w_ret ?_
    refine retc rfl rfl (List.mem_cons_of_mem _ (List.mem_append_right _ (.head _))) Tryz.underlying49 rfl sz49 (fun w' hm => ⟨_, rfl, hm.base (by simp), ?_⟩)
    exact (hT.keep (Kept.frz hm (List.Sublist.refl _) (.head _))).rd (e := 54) hm (fun q hq => List.mem_cons_of_mem _ (List.mem_append_left _ hq)) (fun _ h => h.1) (fun q hq => hm.newer (by simp) (List.mem_cons_of_mem _ (List.mem_append_left _ hq))) hln.symm
set_option maxRecDepth 100000 in
theorem c_line (n : Int) (r : Int × Int) (w : World) (hn : 0 ≤ n ∧ in64 n) (h1 : 0 ≤ r.1 ∧ in64 r.1) (h2 : 0 ≤ r.2 ∧ in64 r.2) :
    Calls Tryz.prog 37 #[.int .i64 n, .agg #[.int .i64 r.1, .int .i64 r.2]] w fun e w' => ∃ u, e = .returned (.agg #[.string (⟨#[76, 73, 78]⟩), u]) ∧ Later w w' ∧ sliceRd (tySlice tyStr) (fun b => w.heap.size ≤ b) w' u ([[itoaS n], [⟨#[]⟩], [recT r.1 r.2, ⟨#[83, 82, 86]⟩]]) := by
  refine enter (vs := [.int .i64 n, .agg #[.int .i64 r.1, .int .i64 r.2]]) Tryz.func37 rfl Tryz.ntmps37 rfl ?_
  refine w_seq ?_
  refine rg_text ?_
  refine x_box rfl rfl rfl rfl ?_
  intro p3
  refine x_alloc rfl rfl rfl zr49 ?_
  intro p4
  refine x_end ?_
  refine t_norm ?_
  refine w_seq ?_
  refine rg_tree 15 (.flt 0 (.flt 1 (.flt 4 (.flt 5 (.flt 6 (.flt 7 (.flt 8 (.flt 9 (.flt 10 (.flt 11 (.gr 2 (.gr 3 (.gr 12 (.gr 13 (.flt 14 .done) .nil) .nil) (.gr 12 (.gr 3 (.gr 13 (.flt 14 .done) .nil) .nil) .nil)) (.gr 3 (.gr 2 (.gr 12 (.gr 13 (.flt 14 .done) .nil) .nil) (.gr 12 (.gr 2 (.gr 13 (.flt 14 .done) .nil) .nil) .nil)) (.gr 12 (.gr 2 (.gr 3 (.gr 13 (.flt 14 .done) .nil) .nil) (.gr 3 (.gr 2 (.gr 13 (.flt 14 .done) .nil) .nil) .nil)) .nil))))))))))))) (by kernel_rfl) (by kernel_rfl) ?_
  refine t_flt (Q := fun _ _ _ => False) ?_
  refine x_val rfl rfl rfl (v_move rfl) ?_
  refine x_end ?_
  refine t_flt (Q := fun _ _ _ => False) ?_
  refine x_callv rfl rfl rfl Tryz.func21 (by kernel_rfl) rfl (fun w1 hw1 => c_Dec n w1 hn.1 hn.2) ?_
  refine x_end ?_
  refine t_flt (Q := fun _ _ _ => False) ?_
  refine x_val rfl rfl rfl (v_fieldAddr (off' := 0) Tryz.underlying23 rfl sz3 (by decide) rfl rfl) ?_
  refine x_end ?_
  refine t_flt (Q := fun _ _ _ => False) ?_
  refine x_val rfl rfl rfl (v_load Tryz.underlying3 rfl rfl (at_ownL (vs := [Value.int .i64 r.1, .int .i64 r.2]) (by repeat (first | exact List.Mem.head _ | apply List.Mem.tail)) rfl)) ?_
  refine x_end ?_
  refine t_flt (Q := fun _ _ _ => False) ?_
  refine x_callv rfl rfl rfl Tryz.func21 (by kernel_rfl) rfl (fun w1 hw1 => c_Dec r.1 w1 h1.1 h1.2) ?_
  refine x_end ?_
  refine t_flt (Q := fun _ _ _ => False) ?_
  refine x_val rfl rfl rfl (v_sadd rfl rfl (by have := itoaS_size h1.2; show _ + 1 ≤ _; omega)) ?_
  refine x_end ?_
  refine t_flt (Q := fun _ _ _ => False) ?_
  refine x_val rfl rfl rfl (v_fieldAddr (off' := 1) Tryz.underlying23 rfl sz3 (by decide) rfl rfl) ?_
  refine x_end ?_
  refine t_flt (Q := fun _ _ _ => False) ?_
  refine x_val rfl rfl rfl (v_load Tryz.underlying3 rfl rfl (at_ownL (vs := [Value.int .i64 r.1, .int .i64 r.2]) (by repeat (first | exact List.Mem.head _ | apply List.Mem.tail)) rfl)) ?_
  refine x_end ?_
  refine t_flt (Q := fun _ _ _ => False) ?_
  refine x_callv rfl rfl rfl Tryz.func21 (by kernel_rfl) rfl (fun w1 hw1 => c_Dec r.2 w1 h2.1 h2.2) ?_
  refine x_end ?_
  refine t_flt (Q := fun _ _ _ => False) ?_
  refine x_val rfl rfl rfl (v_sadd rfl rfl (by have := itoaS_size h1.2; have := itoaS_size h2.2; rw [ByteArray.size_append]; show (_ + 1) + _ ≤ _; omega)) ?_
  refine x_end ?_
  refine t_gr (Q := fun _ _ _ => False) ?_ ?_
  · refine x_buildSliceL (cs := [Value.string (itoaS n)]) rfl rfl rfl Tryz.underlying54 sz9 zr9 rfl rfl rfl ?_
    intro p7
    refine x_end ?_
    refine t_gr (Q := fun _ _ _ => False) ?_ ?_
    · refine x_buildSliceL (cs := [Value.string (⟨#[]⟩)]) rfl rfl rfl Tryz.underlying54 sz9 zr9 rfl rfl rfl ?_
      intro p8
      refine x_end ?_
      refine t_gr (Q := fun _ _ _ => False) ?_ t_nil
      refine x_buildSliceL (cs := [Value.string (recT r.1 r.2), Value.string (⟨#[83, 82, 86]⟩)]) rfl rfl rfl Tryz.underlying54 sz9 zr9 rfl rfl rfl ?_
      intro p17
      refine x_end ?_
      refine t_gr (Q := fun _ _ _ => False) ?_ t_nil
      refine x_buildSliceL (cs := [Value.slice (some ⟨p7, 0, none⟩) 1 1, .slice (some ⟨p8, 0, none⟩) 1 1, .slice (some ⟨p17, 0, none⟩) 2 2]) rfl rfl rfl Tryz.underlying47 sz54 zr54 rfl rfl rfl ?_
      intro p18
      refine x_end ?_
      refine t_flt (Q := fun _ _ _ => False) ?_
      refine x_val rfl rfl rfl (v_buildL (places := [(0, 1), (1, 1)]) Tryz.underlying49 zr49 (by kernel_rfl) rfl rfl) ?_
      refine x_end ?_
      refine t_done ?_
      first
      | refine x_store0 (cs := #[Value.string ⟨#[]⟩, .slice none 0 0]) (e := 49) [(p18, _), (p7, _), (p8, _), (p17, _)] rfl rfl rfl rfl sz49 rfl rfl ?_
      | refine x_store0 (cs := #[Value.string ⟨#[]⟩, .slice none 0 0]) (e := 49) [(p18, _), (p7, _), (p17, _), (p8, _)] rfl rfl rfl rfl sz49 rfl rfl ?_
      | refine x_store0 (cs := #[Value.string ⟨#[]⟩, .slice none 0 0]) (e := 49) [(p18, _), (p8, _), (p7, _), (p17, _)] rfl rfl rfl rfl sz49 rfl rfl ?_
      | refine x_store0 (cs := #[Value.string ⟨#[]⟩, .slice none 0 0]) (e := 49) [(p18, _), (p8, _), (p17, _), (p7, _)] rfl rfl rfl rfl sz49 rfl rfl ?_
      | refine x_store0 (cs := #[Value.string ⟨#[]⟩, .slice none 0 0]) (e := 49) [(p18, _), (p17, _), (p7, _), (p8, _)] rfl rfl rfl rfl sz49 rfl rfl ?_
      | refine x_store0 (cs := #[Value.string ⟨#[]⟩, .slice none 0 0]) (e := 49) [(p18, _), (p17, _), (p8, _), (p7, _)] rfl rfl rfl rfl sz49 rfl rfl ?_
      refine x_end ?_
      refine t_norm ?_
      refine w_ret ?_
      refine retc (cs := #[Value.string (⟨#[76, 73, 78]⟩), .slice (some ⟨p18, 0, none⟩) 3 3]) rfl rfl (by repeat (first | exact List.Mem.head _ | apply List.Mem.tail)) Tryz.underlying49 rfl sz49 (fun w' hm => ⟨_, rfl, hm.base (by simp), ?_⟩)
      exact (lits_new (T := tySlice tyStr) (e := 54) (b := p18) [[Value.slice (some ⟨p7, 0, none⟩) 1 1], [Value.slice (some ⟨p8, 0, none⟩) 1 1], [Value.slice (some ⟨p17, 0, none⟩) 2 2]] (xs := [[itoaS n], [⟨#[]⟩], [recT r.1 r.2, ⟨#[83, 82, 86]⟩]]) hm (by simp) (by repeat (first | exact List.Mem.head _ | apply List.Mem.tail)) rfl (by simp) ⟨⟨_, rfl, (lits_new (T := tyStr) (e := 9) (b := p7) [[Value.string (itoaS n)]] (xs := [itoaS n]) hm (by simp) (by repeat (first | exact List.Mem.head _ | apply List.Mem.tail)) rfl (by simp) ⟨⟨rfl, itoa_ok hn.2⟩, trivial⟩)⟩, ⟨_, rfl, (lits_new (T := tyStr) (e := 9) (b := p8) [[Value.string (⟨#[]⟩)]] (xs := [⟨#[]⟩]) hm (by simp) (by repeat (first | exact List.Mem.head _ | apply List.Mem.tail)) rfl (by simp) ⟨⟨rfl, (okS_small (by decide))⟩, trivial⟩)⟩, ⟨_, rfl, (lits_new (T := tyStr) (e := 9) (b := p17) [[Value.string (recT r.1 r.2)], [Value.string (⟨#[83, 82, 86]⟩)]] (xs := [recT r.1 r.2, ⟨#[83, 82, 86]⟩]) hm (by simp) (by repeat (first | exact List.Mem.head _ | apply List.Mem.tail)) rfl (by simp) ⟨⟨rfl, recT_ok h1.2 h2.2⟩, ⟨rfl, (okS_small (by decide))⟩, trivial⟩)⟩, trivial⟩)
    refine t_gr (Q := fun _ _ _ => False) ?_ t_nil
    refine x_buildSliceL (cs := [Value.string (recT r.1 r.2), Value.string (⟨#[83, 82, 86]⟩)]) rfl rfl rfl Tryz.underlying54 sz9 zr9 rfl rfl rfl ?_
    intro p17
    refine x_end ?_
    refine t_gr (Q := fun _ _ _ => False) ?_ t_nil
    refine x_buildSliceL (cs := [Value.string (⟨#[]⟩)]) rfl rfl rfl Tryz.underlying54 sz9 zr9 rfl rfl rfl ?_
    intro p8
    refine x_end ?_
    refine t_gr (Q := fun _ _ _ => False) ?_ t_nil
    refine x_buildSliceL (cs := [Value.slice (some ⟨p7, 0, none⟩) 1 1, .slice (some ⟨p8, 0, none⟩) 1 1, .slice (some ⟨p17, 0, none⟩) 2 2]) rfl rfl rfl Tryz.underlying47 sz54 zr54 rfl rfl rfl ?_
    intro p18
    refine x_end ?_
    refine t_flt (Q := fun _ _ _ => False) ?_
    refine x_val rfl rfl rfl (v_buildL (places := [(0, 1), (1, 1)]) Tryz.underlying49 zr49 (by kernel_rfl) rfl rfl) ?_
    refine x_end ?_
    refine t_done ?_
    first
    | refine x_store0 (cs := #[Value.string ⟨#[]⟩, .slice none 0 0]) (e := 49) [(p18, _), (p7, _), (p8, _), (p17, _)] rfl rfl rfl rfl sz49 rfl rfl ?_
    | refine x_store0 (cs := #[Value.string ⟨#[]⟩, .slice none 0 0]) (e := 49) [(p18, _), (p7, _), (p17, _), (p8, _)] rfl rfl rfl rfl sz49 rfl rfl ?_
    | refine x_store0 (cs := #[Value.string ⟨#[]⟩, .slice none 0 0]) (e := 49) [(p18, _), (p8, _), (p7, _), (p17, _)] rfl rfl rfl rfl sz49 rfl rfl ?_
    | refine x_store0 (cs := #[Value.string ⟨#[]⟩, .slice none 0 0]) (e := 49) [(p18, _), (p8, _), (p17, _), (p7, _)] rfl rfl rfl rfl sz49 rfl rfl ?_
    | refine x_store0 (cs := #[Value.string ⟨#[]⟩, .slice none 0 0]) (e := 49) [(p18, _), (p17, _), (p7, _), (p8, _)] rfl rfl rfl rfl sz49 rfl rfl ?_
    | refine x_store0 (cs := #[Value.string ⟨#[]⟩, .slice none 0 0]) (e := 49) [(p18, _), (p17, _), (p8, _), (p7, _)] rfl rfl rfl rfl sz49 rfl rfl ?_
    refine x_end ?_
    refine t_norm ?_
    refine w_ret ?_
    refine retc (cs := #[Value.string (⟨#[76, 73, 78]⟩), .slice (some ⟨p18, 0, none⟩) 3 3]) rfl rfl (by repeat (first | exact List.Mem.head _ | apply List.Mem.tail)) Tryz.underlying49 rfl sz49 (fun w' hm => ⟨_, rfl, hm.base (by simp), ?_⟩)
    exact (lits_new (T := tySlice tyStr) (e := 54) (b := p18) [[Value.slice (some ⟨p7, 0, none⟩) 1 1], [Value.slice (some ⟨p8, 0, none⟩) 1 1], [Value.slice (some ⟨p17, 0, none⟩) 2 2]] (xs := [[itoaS n], [⟨#[]⟩], [recT r.1 r.2, ⟨#[83, 82, 86]⟩]]) hm (by simp) (by repeat (first | exact List.Mem.head _ | apply List.Mem.tail)) rfl (by simp) ⟨⟨_, rfl, (lits_new (T := tyStr) (e := 9) (b := p7) [[Value.string (itoaS n)]] (xs := [itoaS n]) hm (by simp) (by repeat (first | exact List.Mem.head _ | apply List.Mem.tail)) rfl (by simp) ⟨⟨rfl, itoa_ok hn.2⟩, trivial⟩)⟩, ⟨_, rfl, (lits_new (T := tyStr) (e := 9) (b := p8) [[Value.string (⟨#[]⟩)]] (xs := [⟨#[]⟩]) hm (by simp) (by repeat (first | exact List.Mem.head _ | apply List.Mem.tail)) rfl (by simp) ⟨⟨rfl, (okS_small (by decide))⟩, trivial⟩)⟩, ⟨_, rfl, (lits_new (T := tyStr) (e := 9) (b := p17) [[Value.string (recT r.1 r.2)], [Value.string (⟨#[83, 82, 86]⟩)]] (xs := [recT r.1 r.2, ⟨#[83, 82, 86]⟩]) hm (by simp) (by repeat (first | exact List.Mem.head _ | apply List.Mem.tail)) rfl (by simp) ⟨⟨rfl, recT_ok h1.2 h2.2⟩, ⟨rfl, (okS_small (by decide))⟩, trivial⟩)⟩, trivial⟩)
  refine t_gr (Q := fun _ _ _ => False) ?_ ?_
  · refine x_buildSliceL (cs := [Value.string (⟨#[]⟩)]) rfl rfl rfl Tryz.underlying54 sz9 zr9 rfl rfl rfl ?_
    intro p8
    refine x_end ?_
    refine t_gr (Q := fun _ _ _ => False) ?_ ?_
    · refine x_buildSliceL (cs := [Value.string (itoaS n)]) rfl rfl rfl Tryz.underlying54 sz9 zr9 rfl rfl rfl ?_
      intro p7
      refine x_end ?_
      refine t_gr (Q := fun _ _ _ => False) ?_ t_nil
      refine x_buildSliceL (cs := [Value.string (recT r.1 r.2), Value.string (⟨#[83, 82, 86]⟩)]) rfl rfl rfl Tryz.underlying54 sz9 zr9 rfl rfl rfl ?_
      intro p17
      refine x_end ?_
      refine t_gr (Q := fun _ _ _ => False) ?_ t_nil
      refine x_buildSliceL (cs := [Value.slice (some ⟨p7, 0, none⟩) 1 1, .slice (some ⟨p8, 0, none⟩) 1 1, .slice (some ⟨p17, 0, none⟩) 2 2]) rfl rfl rfl Tryz.underlying47 sz54 zr54 rfl rfl rfl ?_
      intro p18
      refine x_end ?_
      refine t_flt (Q := fun _ _ _ => False) ?_
      refine x_val rfl rfl rfl (v_buildL (places := [(0, 1), (1, 1)]) Tryz.underlying49 zr49 (by kernel_rfl) rfl rfl) ?_
      refine x_end ?_
      refine t_done ?_
      first
      | refine x_store0 (cs := #[Value.string ⟨#[]⟩, .slice none 0 0]) (e := 49) [(p18, _), (p7, _), (p8, _), (p17, _)] rfl rfl rfl rfl sz49 rfl rfl ?_
      | refine x_store0 (cs := #[Value.string ⟨#[]⟩, .slice none 0 0]) (e := 49) [(p18, _), (p7, _), (p17, _), (p8, _)] rfl rfl rfl rfl sz49 rfl rfl ?_
      | refine x_store0 (cs := #[Value.string ⟨#[]⟩, .slice none 0 0]) (e := 49) [(p18, _), (p8, _), (p7, _), (p17, _)] rfl rfl rfl rfl sz49 rfl rfl ?_
      | refine x_store0 (cs := #[Value.string ⟨#[]⟩, .slice none 0 0]) (e := 49) [(p18, _), (p8, _), (p17, _), (p7, _)] rfl rfl rfl rfl sz49 rfl rfl ?_
      | refine x_store0 (cs := #[Value.string ⟨#[]⟩, .slice none 0 0]) (e := 49) [(p18, _), (p17, _), (p7, _), (p8, _)] rfl rfl rfl rfl sz49 rfl rfl ?_
      | refine x_store0 (cs := #[Value.string ⟨#[]⟩, .slice none 0 0]) (e := 49) [(p18, _), (p17, _), (p8, _), (p7, _)] rfl rfl rfl rfl sz49 rfl rfl ?_
      refine x_end ?_
      refine t_norm ?_
      refine w_ret ?_
      refine retc (cs := #[Value.string (⟨#[76, 73, 78]⟩), .slice (some ⟨p18, 0, none⟩) 3 3]) rfl rfl (by repeat (first | exact List.Mem.head _ | apply List.Mem.tail)) Tryz.underlying49 rfl sz49 (fun w' hm => ⟨_, rfl, hm.base (by simp), ?_⟩)
      exact (lits_new (T := tySlice tyStr) (e := 54) (b := p18) [[Value.slice (some ⟨p7, 0, none⟩) 1 1], [Value.slice (some ⟨p8, 0, none⟩) 1 1], [Value.slice (some ⟨p17, 0, none⟩) 2 2]] (xs := [[itoaS n], [⟨#[]⟩], [recT r.1 r.2, ⟨#[83, 82, 86]⟩]]) hm (by simp) (by repeat (first | exact List.Mem.head _ | apply List.Mem.tail)) rfl (by simp) ⟨⟨_, rfl, (lits_new (T := tyStr) (e := 9) (b := p7) [[Value.string (itoaS n)]] (xs := [itoaS n]) hm (by simp) (by repeat (first | exact List.Mem.head _ | apply List.Mem.tail)) rfl (by simp) ⟨⟨rfl, itoa_ok hn.2⟩, trivial⟩)⟩, ⟨_, rfl, (lits_new (T := tyStr) (e := 9) (b := p8) [[Value.string (⟨#[]⟩)]] (xs := [⟨#[]⟩]) hm (by simp) (by repeat (first | exact List.Mem.head _ | apply List.Mem.tail)) rfl (by simp) ⟨⟨rfl, (okS_small (by decide))⟩, trivial⟩)⟩, ⟨_, rfl, (lits_new (T := tyStr) (e := 9) (b := p17) [[Value.string (recT r.1 r.2)], [Value.string (⟨#[83, 82, 86]⟩)]] (xs := [recT r.1 r.2, ⟨#[83, 82, 86]⟩]) hm (by simp) (by repeat (first | exact List.Mem.head _ | apply List.Mem.tail)) rfl (by simp) ⟨⟨rfl, recT_ok h1.2 h2.2⟩, ⟨rfl, (okS_small (by decide))⟩, trivial⟩)⟩, trivial⟩)
    refine t_gr (Q := fun _ _ _ => False) ?_ t_nil
    refine x_buildSliceL (cs := [Value.string (recT r.1 r.2), Value.string (⟨#[83, 82, 86]⟩)]) rfl rfl rfl Tryz.underlying54 sz9 zr9 rfl rfl rfl ?_
    intro p17
    refine x_end ?_
    refine t_gr (Q := fun _ _ _ => False) ?_ t_nil
    refine x_buildSliceL (cs := [Value.string (itoaS n)]) rfl rfl rfl Tryz.underlying54 sz9 zr9 rfl rfl rfl ?_
    intro p7
    refine x_end ?_
    refine t_gr (Q := fun _ _ _ => False) ?_ t_nil
    refine x_buildSliceL (cs := [Value.slice (some ⟨p7, 0, none⟩) 1 1, .slice (some ⟨p8, 0, none⟩) 1 1, .slice (some ⟨p17, 0, none⟩) 2 2]) rfl rfl rfl Tryz.underlying47 sz54 zr54 rfl rfl rfl ?_
    intro p18
    refine x_end ?_
    refine t_flt (Q := fun _ _ _ => False) ?_
    refine x_val rfl rfl rfl (v_buildL (places := [(0, 1), (1, 1)]) Tryz.underlying49 zr49 (by kernel_rfl) rfl rfl) ?_
    refine x_end ?_
    refine t_done ?_
    first
    | refine x_store0 (cs := #[Value.string ⟨#[]⟩, .slice none 0 0]) (e := 49) [(p18, _), (p7, _), (p8, _), (p17, _)] rfl rfl rfl rfl sz49 rfl rfl ?_
    | refine x_store0 (cs := #[Value.string ⟨#[]⟩, .slice none 0 0]) (e := 49) [(p18, _), (p7, _), (p17, _), (p8, _)] rfl rfl rfl rfl sz49 rfl rfl ?_
    | refine x_store0 (cs := #[Value.string ⟨#[]⟩, .slice none 0 0]) (e := 49) [(p18, _), (p8, _), (p7, _), (p17, _)] rfl rfl rfl rfl sz49 rfl rfl ?_
    | refine x_store0 (cs := #[Value.string ⟨#[]⟩, .slice none 0 0]) (e := 49) [(p18, _), (p8, _), (p17, _), (p7, _)] rfl rfl rfl rfl sz49 rfl rfl ?_
    | refine x_store0 (cs := #[Value.string ⟨#[]⟩, .slice none 0 0]) (e := 49) [(p18, _), (p17, _), (p7, _), (p8, _)] rfl rfl rfl rfl sz49 rfl rfl ?_
    | refine x_store0 (cs := #[Value.string ⟨#[]⟩, .slice none 0 0]) (e := 49) [(p18, _), (p17, _), (p8, _), (p7, _)] rfl rfl rfl rfl sz49 rfl rfl ?_
    refine x_end ?_
    refine t_norm ?_
    refine w_ret ?_
    refine retc (cs := #[Value.string (⟨#[76, 73, 78]⟩), .slice (some ⟨p18, 0, none⟩) 3 3]) rfl rfl (by repeat (first | exact List.Mem.head _ | apply List.Mem.tail)) Tryz.underlying49 rfl sz49 (fun w' hm => ⟨_, rfl, hm.base (by simp), ?_⟩)
    exact (lits_new (T := tySlice tyStr) (e := 54) (b := p18) [[Value.slice (some ⟨p7, 0, none⟩) 1 1], [Value.slice (some ⟨p8, 0, none⟩) 1 1], [Value.slice (some ⟨p17, 0, none⟩) 2 2]] (xs := [[itoaS n], [⟨#[]⟩], [recT r.1 r.2, ⟨#[83, 82, 86]⟩]]) hm (by simp) (by repeat (first | exact List.Mem.head _ | apply List.Mem.tail)) rfl (by simp) ⟨⟨_, rfl, (lits_new (T := tyStr) (e := 9) (b := p7) [[Value.string (itoaS n)]] (xs := [itoaS n]) hm (by simp) (by repeat (first | exact List.Mem.head _ | apply List.Mem.tail)) rfl (by simp) ⟨⟨rfl, itoa_ok hn.2⟩, trivial⟩)⟩, ⟨_, rfl, (lits_new (T := tyStr) (e := 9) (b := p8) [[Value.string (⟨#[]⟩)]] (xs := [⟨#[]⟩]) hm (by simp) (by repeat (first | exact List.Mem.head _ | apply List.Mem.tail)) rfl (by simp) ⟨⟨rfl, (okS_small (by decide))⟩, trivial⟩)⟩, ⟨_, rfl, (lits_new (T := tyStr) (e := 9) (b := p17) [[Value.string (recT r.1 r.2)], [Value.string (⟨#[83, 82, 86]⟩)]] (xs := [recT r.1 r.2, ⟨#[83, 82, 86]⟩]) hm (by simp) (by repeat (first | exact List.Mem.head _ | apply List.Mem.tail)) rfl (by simp) ⟨⟨rfl, recT_ok h1.2 h2.2⟩, ⟨rfl, (okS_small (by decide))⟩, trivial⟩)⟩, trivial⟩)
  refine t_gr (Q := fun _ _ _ => False) ?_ t_nil
  refine x_buildSliceL (cs := [Value.string (recT r.1 r.2), Value.string (⟨#[83, 82, 86]⟩)]) rfl rfl rfl Tryz.underlying54 sz9 zr9 rfl rfl rfl ?_
  intro p17
  refine x_end ?_
  refine t_gr (Q := fun _ _ _ => False) ?_ ?_
  · refine x_buildSliceL (cs := [Value.string (itoaS n)]) rfl rfl rfl Tryz.underlying54 sz9 zr9 rfl rfl rfl ?_
    intro p7
    refine x_end ?_
    refine t_gr (Q := fun _ _ _ => False) ?_ t_nil
    refine x_buildSliceL (cs := [Value.string (⟨#[]⟩)]) rfl rfl rfl Tryz.underlying54 sz9 zr9 rfl rfl rfl ?_
    intro p8
    refine x_end ?_
    refine t_gr (Q := fun _ _ _ => False) ?_ t_nil
    refine x_buildSliceL (cs := [Value.slice (some ⟨p7, 0, none⟩) 1 1, .slice (some ⟨p8, 0, none⟩) 1 1, .slice (some ⟨p17, 0, none⟩) 2 2]) rfl rfl rfl Tryz.underlying47 sz54 zr54 rfl rfl rfl ?_
    intro p18
    refine x_end ?_
    refine t_flt (Q := fun _ _ _ => False) ?_
    refine x_val rfl rfl rfl (v_buildL (places := [(0, 1), (1, 1)]) Tryz.underlying49 zr49 (by kernel_rfl) rfl rfl) ?_
    refine x_end ?_
    refine t_done ?_
    first
    | refine x_store0 (cs := #[Value.string ⟨#[]⟩, .slice none 0 0]) (e := 49) [(p18, _), (p7, _), (p8, _), (p17, _)] rfl rfl rfl rfl sz49 rfl rfl ?_
    | refine x_store0 (cs := #[Value.string ⟨#[]⟩, .slice none 0 0]) (e := 49) [(p18, _), (p7, _), (p17, _), (p8, _)] rfl rfl rfl rfl sz49 rfl rfl ?_
    | refine x_store0 (cs := #[Value.string ⟨#[]⟩, .slice none 0 0]) (e := 49) [(p18, _), (p8, _), (p7, _), (p17, _)] rfl rfl rfl rfl sz49 rfl rfl ?_
    | refine x_store0 (cs := #[Value.string ⟨#[]⟩, .slice none 0 0]) (e := 49) [(p18, _), (p8, _), (p17, _), (p7, _)] rfl rfl rfl rfl sz49 rfl rfl ?_
    | refine x_store0 (cs := #[Value.string ⟨#[]⟩, .slice none 0 0]) (e := 49) [(p18, _), (p17, _), (p7, _), (p8, _)] rfl rfl rfl rfl sz49 rfl rfl ?_
    | refine x_store0 (cs := #[Value.string ⟨#[]⟩, .slice none 0 0]) (e := 49) [(p18, _), (p17, _), (p8, _), (p7, _)] rfl rfl rfl rfl sz49 rfl rfl ?_
    refine x_end ?_
    refine t_norm ?_
    refine w_ret ?_
    refine retc (cs := #[Value.string (⟨#[76, 73, 78]⟩), .slice (some ⟨p18, 0, none⟩) 3 3]) rfl rfl (by repeat (first | exact List.Mem.head _ | apply List.Mem.tail)) Tryz.underlying49 rfl sz49 (fun w' hm => ⟨_, rfl, hm.base (by simp), ?_⟩)
    exact (lits_new (T := tySlice tyStr) (e := 54) (b := p18) [[Value.slice (some ⟨p7, 0, none⟩) 1 1], [Value.slice (some ⟨p8, 0, none⟩) 1 1], [Value.slice (some ⟨p17, 0, none⟩) 2 2]] (xs := [[itoaS n], [⟨#[]⟩], [recT r.1 r.2, ⟨#[83, 82, 86]⟩]]) hm (by simp) (by repeat (first | exact List.Mem.head _ | apply List.Mem.tail)) rfl (by simp) ⟨⟨_, rfl, (lits_new (T := tyStr) (e := 9) (b := p7) [[Value.string (itoaS n)]] (xs := [itoaS n]) hm (by simp) (by repeat (first | exact List.Mem.head _ | apply List.Mem.tail)) rfl (by simp) ⟨⟨rfl, itoa_ok hn.2⟩, trivial⟩)⟩, ⟨_, rfl, (lits_new (T := tyStr) (e := 9) (b := p8) [[Value.string (⟨#[]⟩)]] (xs := [⟨#[]⟩]) hm (by simp) (by repeat (first | exact List.Mem.head _ | apply List.Mem.tail)) rfl (by simp) ⟨⟨rfl, (okS_small (by decide))⟩, trivial⟩)⟩, ⟨_, rfl, (lits_new (T := tyStr) (e := 9) (b := p17) [[Value.string (recT r.1 r.2)], [Value.string (⟨#[83, 82, 86]⟩)]] (xs := [recT r.1 r.2, ⟨#[83, 82, 86]⟩]) hm (by simp) (by repeat (first | exact List.Mem.head _ | apply List.Mem.tail)) rfl (by simp) ⟨⟨rfl, recT_ok h1.2 h2.2⟩, ⟨rfl, (okS_small (by decide))⟩, trivial⟩)⟩, trivial⟩)
  refine t_gr (Q := fun _ _ _ => False) ?_ t_nil
  refine x_buildSliceL (cs := [Value.string (⟨#[]⟩)]) rfl rfl rfl Tryz.underlying54 sz9 zr9 rfl rfl rfl ?_
  intro p8
  refine x_end ?_
  refine t_gr (Q := fun _ _ _ => False) ?_ t_nil
  refine x_buildSliceL (cs := [Value.string (itoaS n)]) rfl rfl rfl Tryz.underlying54 sz9 zr9 rfl rfl rfl ?_
  intro p7
  refine x_end ?_
  refine t_gr (Q := fun _ _ _ => False) ?_ t_nil
  refine x_buildSliceL (cs := [Value.slice (some ⟨p7, 0, none⟩) 1 1, .slice (some ⟨p8, 0, none⟩) 1 1, .slice (some ⟨p17, 0, none⟩) 2 2]) rfl rfl rfl Tryz.underlying47 sz54 zr54 rfl rfl rfl ?_
  intro p18
  refine x_end ?_
  refine t_flt (Q := fun _ _ _ => False) ?_
  refine x_val rfl rfl rfl (v_buildL (places := [(0, 1), (1, 1)]) Tryz.underlying49 zr49 (by kernel_rfl) rfl rfl) ?_
  refine x_end ?_
  refine t_done ?_
  first
  | refine x_store0 (cs := #[Value.string ⟨#[]⟩, .slice none 0 0]) (e := 49) [(p18, _), (p7, _), (p8, _), (p17, _)] rfl rfl rfl rfl sz49 rfl rfl ?_
  | refine x_store0 (cs := #[Value.string ⟨#[]⟩, .slice none 0 0]) (e := 49) [(p18, _), (p7, _), (p17, _), (p8, _)] rfl rfl rfl rfl sz49 rfl rfl ?_
  | refine x_store0 (cs := #[Value.string ⟨#[]⟩, .slice none 0 0]) (e := 49) [(p18, _), (p8, _), (p7, _), (p17, _)] rfl rfl rfl rfl sz49 rfl rfl ?_
  | refine x_store0 (cs := #[Value.string ⟨#[]⟩, .slice none 0 0]) (e := 49) [(p18, _), (p8, _), (p17, _), (p7, _)] rfl rfl rfl rfl sz49 rfl rfl ?_
  | refine x_store0 (cs := #[Value.string ⟨#[]⟩, .slice none 0 0]) (e := 49) [(p18, _), (p17, _), (p7, _), (p8, _)] rfl rfl rfl rfl sz49 rfl rfl ?_
  | refine x_store0 (cs := #[Value.string ⟨#[]⟩, .slice none 0 0]) (e := 49) [(p18, _), (p17, _), (p8, _), (p7, _)] rfl rfl rfl rfl sz49 rfl rfl ?_
  refine x_end ?_
  refine t_norm ?_
  refine w_ret ?_
  refine retc (cs := #[Value.string (⟨#[76, 73, 78]⟩), .slice (some ⟨p18, 0, none⟩) 3 3]) rfl rfl (by repeat (first | exact List.Mem.head _ | apply List.Mem.tail)) Tryz.underlying49 rfl sz49 (fun w' hm => ⟨_, rfl, hm.base (by simp), ?_⟩)
  exact (lits_new (T := tySlice tyStr) (e := 54) (b := p18) [[Value.slice (some ⟨p7, 0, none⟩) 1 1], [Value.slice (some ⟨p8, 0, none⟩) 1 1], [Value.slice (some ⟨p17, 0, none⟩) 2 2]] (xs := [[itoaS n], [⟨#[]⟩], [recT r.1 r.2, ⟨#[83, 82, 86]⟩]]) hm (by simp) (by repeat (first | exact List.Mem.head _ | apply List.Mem.tail)) rfl (by simp) ⟨⟨_, rfl, (lits_new (T := tyStr) (e := 9) (b := p7) [[Value.string (itoaS n)]] (xs := [itoaS n]) hm (by simp) (by repeat (first | exact List.Mem.head _ | apply List.Mem.tail)) rfl (by simp) ⟨⟨rfl, itoa_ok hn.2⟩, trivial⟩)⟩, ⟨_, rfl, (lits_new (T := tyStr) (e := 9) (b := p8) [[Value.string (⟨#[]⟩)]] (xs := [⟨#[]⟩]) hm (by simp) (by repeat (first | exact List.Mem.head _ | apply List.Mem.tail)) rfl (by simp) ⟨⟨rfl, (okS_small (by decide))⟩, trivial⟩)⟩, ⟨_, rfl, (lits_new (T := tyStr) (e := 9) (b := p17) [[Value.string (recT r.1 r.2)], [Value.string (⟨#[83, 82, 86]⟩)]] (xs := [recT r.1 r.2, ⟨#[83, 82, 86]⟩]) hm (by simp) (by repeat (first | exact List.Mem.head _ | apply List.Mem.tail)) rfl (by simp) ⟨⟨rfl, recT_ok h1.2 h2.2⟩, ⟨rfl, (okS_small (by decide))⟩, trivial⟩)⟩, trivial⟩)

end Go.Proofs.YtbamklefagghcaaGreatDoor

namespace Go.Proofs.YtbamklefagghcaaGreatDoor
open Go.RowKit Go.PK
set_option linter.unusedVariables false
set_option linter.unusedSimpArgs false
end Go.Proofs.YtbamklefagghcaaGreatDoor

namespace Go.Proofs.YtbamklefagghcaaGreatDoor
open Go.RowKit Go.PK
set_option linter.unusedVariables false
set_option linter.unusedSimpArgs false
set_option maxRecDepth 100000 in
theorem c_text {v : Value} {l : List Seg} {D : Nat → Prop} (n e c : Nat) (w : World) (hl : sliceRd tySeg D w v l) :
    Calls Tryz.prog 40 #[v, .int .i64 (n : Nat), .int .i64 (e : Nat), .int .i64 (c : Nat)] w fun ee w' => ee = .returned (.string (txt l n e c)) ∧ Later w w' := by
  obtain ⟨A, cp, rfl, hlc, hmx, _⟩ := id hl
  obtain ⟨sb, so, EA, ec, hS⟩ := seg_there hl n
  obtain ⟨eb, eo, FA, fc, hE⟩ := els_there (K := n < l.length) (fun h => (hS h).2.2.2.2.2) e
  refine enter (vs := [Value.slice A l.length cp, .int .i64 (n : Nat), .int .i64 (e : Nat), .int .i64 (c : Nat)]) Tryz.func40 rfl Tryz.ntmps40 rfl ?_
  refine w_seq ?_
  refine rg_text ?_
  refine x_val rfl rfl rfl (v_assign rfl) ?_
  refine x_end ?_
  refine t_norm ?_
  refine w_seq ?_
  refine w_seq ?_
  refine rg_text ?_
  refine x_val rfl rfl rfl (v_move rfl) ?_
  refine x_val rfl rfl rfl (v_move rfl) ?_
  refine x_val rfl rfl rfl (v_len_slice Tryz.underlying29 rfl) ?_
  refine x_bool rfl rfl rfl (v_geq rfl rfl) ?_
  intro b12 hb12
  refine x_val rfl rfl rfl (v_move rfl) ?_
  refine x_if [] rfl rfl rfl rfl rfl (fun hg => by obtain ⟨hg0, _⟩ := hg; subst hg0; (try simp only [List.cons_append, List.nil_append, gvl_nil, gvl_t, gvl_f]); exact v_move rfl) ?_
  refine x_if [] rfl rfl rfl rfl rfl (fun hg => by obtain ⟨hg0, _⟩ := hg; subst hg0; (try simp only [List.cons_append, List.nil_append, gvl_nil, gvl_t, gvl_f]); exact v_move rfl) ?_
  refine x_if [] rfl rfl rfl rfl rfl (fun hg => by obtain ⟨hg0, _⟩ := hg; subst hg0; (try simp only [List.cons_append, List.nil_append, gvl_nil, gvl_t, gvl_f]); exact v_move rfl) ?_
  refine x_if [] rfl rfl rfl rfl rfl (fun hg => by obtain ⟨hg0, _⟩ := hg; subst hg0; (try simp only [List.cons_append, List.nil_append, gvl_nil, gvl_t, gvl_f]); have h1 : n < l.length := (by have h0 := hb12.symm; simp only [decide_eq_false_iff_not] at h0; omega); exact v_indexAddr Tryz.underlying29 sz49 (congrArg (fun A => some (Value.slice A l.length cp)) (hS h1).1) rfl (h1) rfl) ?_
  refine x_if [] rfl rfl rfl rfl rfl (fun hg => by obtain ⟨hg0, _⟩ := hg; subst hg0; (try simp only [List.cons_append, List.nil_append, gvl_nil, gvl_t, gvl_f]); exact v_fieldAddr Tryz.underlying49 rfl sz47 (by decide) rfl rfl) ?_
  refine x_if [] rfl rfl rfl rfl rfl (fun hg => by obtain ⟨hg0, _⟩ := hg; subst hg0; (try simp only [List.cons_append, List.nil_append, gvl_nil, gvl_t, gvl_f]); have h1 : n < l.length := (by have h0 := hb12.symm; simp only [decide_eq_false_iff_not] at h0; omega); exact v_load Tryz.underlying47 rfl rfl (at_ro (.head _) trivial (hS h1).2.2.2.1)) ?_
  refine x_if [] rfl rfl rfl rfl rfl (fun hg => by obtain ⟨hg0, _⟩ := hg; subst hg0; (try simp only [List.cons_append, List.nil_append, gvl_nil, gvl_t, gvl_f]); exact v_len_slice Tryz.underlying47 rfl) ?_
  refine x_ifb [] rfl rfl rfl rfl rfl (fun hg => by obtain ⟨hg0, _⟩ := hg; subst hg0; (try simp only [List.cons_append, List.nil_append, gvl_nil, gvl_t, gvl_f]); exact v_geq rfl rfl) ?_
  intro b21 hb21
  refine x_bool rfl rfl rfl (v_or rfl rfl) ?_
  intro b22 hb22
  refine x_val rfl rfl rfl (v_move rfl) ?_
  refine x_if [] rfl rfl rfl rfl rfl (fun hg => by obtain ⟨hg0, _⟩ := hg; subst hg0; (try simp only [List.cons_append, List.nil_append, gvl_nil, gvl_t, gvl_f]); exact v_move rfl) ?_
  refine x_if [] rfl rfl rfl rfl rfl (fun hg => by obtain ⟨hg0, _⟩ := hg; subst hg0; (try simp only [List.cons_append, List.nil_append, gvl_nil, gvl_t, gvl_f]); exact v_move rfl) ?_
  refine x_if [] rfl rfl rfl rfl rfl (fun hg => by obtain ⟨hg0, _⟩ := hg; subst hg0; (try simp only [List.cons_append, List.nil_append, gvl_nil, gvl_t, gvl_f]); exact v_move rfl) ?_
  refine x_if [] rfl rfl rfl rfl rfl (fun hg => by obtain ⟨hg0, _⟩ := hg; subst hg0; (try simp only [List.cons_append, List.nil_append, gvl_nil, gvl_t, gvl_f]); have h12 : n < l.length ∧ e < (segD l n).els.length := (by have h0 := hb22.symm; simp only [hb12, hb21, Bool.or_eq_false_iff, decide_eq_false_iff_not] at h0; omega); exact v_indexAddr Tryz.underlying29 sz49 (congrArg (fun A => some (Value.slice A l.length cp)) (hS h12.1).1) rfl (h12.1) rfl) ?_
  refine x_if [] rfl rfl rfl rfl rfl (fun hg => by obtain ⟨hg0, _⟩ := hg; subst hg0; (try simp only [List.cons_append, List.nil_append, gvl_nil, gvl_t, gvl_f]); exact v_fieldAddr Tryz.underlying49 rfl sz47 (by decide) rfl rfl) ?_
  refine x_if [] rfl rfl rfl rfl rfl (fun hg => by obtain ⟨hg0, _⟩ := hg; subst hg0; (try simp only [List.cons_append, List.nil_append, gvl_nil, gvl_t, gvl_f]); have h12 : n < l.length ∧ e < (segD l n).els.length := (by have h0 := hb22.symm; simp only [hb12, hb21, Bool.or_eq_false_iff, decide_eq_false_iff_not] at h0; omega); exact v_load Tryz.underlying47 rfl rfl (at_ro (.head _) trivial (hS h12.1).2.2.2.1)) ?_
  refine x_if [] rfl rfl rfl rfl rfl (fun hg => by obtain ⟨hg0, _⟩ := hg; subst hg0; (try simp only [List.cons_append, List.nil_append, gvl_nil, gvl_t, gvl_f]); exact v_move rfl) ?_
  refine x_if [] rfl rfl rfl rfl rfl (fun hg => by obtain ⟨hg0, _⟩ := hg; subst hg0; (try simp only [List.cons_append, List.nil_append, gvl_nil, gvl_t, gvl_f]); have h12 : n < l.length ∧ e < (segD l n).els.length := (by have h0 := hb22.symm; simp only [hb12, hb21, Bool.or_eq_false_iff, decide_eq_false_iff_not] at h0; omega); exact v_indexAddr Tryz.underlying47 sz54 (congrArg (fun A => some (Value.slice A (segD l n).els.length ec)) (hE h12.1 h12.2).1) rfl (h12.2) rfl) ?_
  refine x_if [] rfl rfl rfl rfl rfl (fun hg => by obtain ⟨hg0, _⟩ := hg; subst hg0; (try simp only [List.cons_append, List.nil_append, gvl_nil, gvl_t, gvl_f]); have h12 : n < l.length ∧ e < (segD l n).els.length := (by have h0 := hb22.symm; simp only [hb12, hb21, Bool.or_eq_false_iff, decide_eq_false_iff_not] at h0; omega); exact v_load Tryz.underlying54 rfl rfl (at_ro (.head _) trivial (by rw [Nat.mul_one]; exact (hE h12.1 h12.2).2.2.1))) ?_
  refine x_if [] rfl rfl rfl rfl rfl (fun hg => by obtain ⟨hg0, _⟩ := hg; subst hg0; (try simp only [List.cons_append, List.nil_append, gvl_nil, gvl_t, gvl_f]); exact v_len_slice Tryz.underlying54 rfl) ?_
  refine x_ifb [] rfl rfl rfl rfl rfl (fun hg => by obtain ⟨hg0, _⟩ := hg; subst hg0; (try simp only [List.cons_append, List.nil_append, gvl_nil, gvl_t, gvl_f]); exact v_geq rfl rfl) ?_
  intro b34 hb34
  refine x_bool rfl rfl rfl (v_or rfl rfl) ?_
  intro b35 hb35
  refine x_end ?_
  refine t_norm ?_
  refine w_cond rfl (fun hc35 => ?_) (fun hc35 => ?_)
  · have hno : ¬(n < l.length ∧ e < (segD l n).els.length ∧ c < (elsD (segD l n).els e).length) := fun h => by
      simp only [hb35, hb34, hb22, hb21, hb12, Bool.or_eq_true, decide_eq_true_eq] at hc35
      omega
    refine w_seq ?_
    refine rg_text ?_
    refine x_val rfl rfl rfl (v_assign rfl) ?_
    refine x_end ?_
    refine t_norm ?_
    refine w_ret ?_
    refine t_ret ?_
    refine ret1 rfl rfl (fun w' hm => ⟨?_, hm.base (by simp)⟩)
    unfold txt; rw [txO_out hno]; rfl
  · have hin : n < l.length ∧ e < (segD l n).els.length ∧ c < (elsD (segD l n).els e).length := by
      simp only [hb35, hb34, hb22, hb21, hb12, Bool.or_eq_false_iff, decide_eq_false_iff_not] at hc35
      omega
    obtain ⟨k1, k2, k3⟩ := hin
    obtain ⟨s1, _, _, s4, _, s6⟩ := hS k1
    obtain ⟨e1, _, e3, e4⟩ := hE k1 k2
    obtain ⟨fb, fo, f1, _, f3, _⟩ := s_at e4 k3
    refine w_skip ?_
    refine t_norm ?_
    refine w_seq ?_
    refine rg_text ?_
    refine x_val rfl rfl rfl (v_move rfl) ?_
    refine x_val rfl rfl rfl (v_move rfl) ?_
    refine x_val rfl rfl rfl (v_indexAddr Tryz.underlying29 sz49 (congrArg (fun A => some (Value.slice A l.length cp)) s1) rfl (by first | omega | (dsimp only; omega)) rfl) ?_
    refine x_val rfl rfl rfl (v_fieldAddr Tryz.underlying49 rfl sz47 (by decide) rfl rfl) ?_
    refine x_val rfl rfl rfl (v_load Tryz.underlying47 rfl rfl (at_ro (.head _) trivial s4)) ?_
    refine x_val rfl rfl rfl (v_move rfl) ?_
    refine x_val rfl rfl rfl (v_indexAddr Tryz.underlying47 sz54 (congrArg (fun A => some (Value.slice A (segD l n).els.length ec)) e1) rfl (by first | omega | (dsimp only; omega)) rfl) ?_
    refine x_val rfl rfl rfl (v_load Tryz.underlying54 rfl rfl (at_ro (.head _) trivial (by rw [Nat.mul_one]; exact e3))) ?_
    refine x_val rfl rfl rfl (v_move rfl) ?_
    refine x_val rfl rfl rfl (v_indexAddr Tryz.underlying54 sz9 (congrArg (fun A => some (Value.slice A (elsD (segD l n).els e).length fc)) f1) rfl (by first | omega | (dsimp only; omega)) rfl) ?_
    refine x_val rfl rfl rfl (v_load Tryz.underlying9 rfl rfl (at_ro (.head _) trivial (by rw [Nat.mul_one]; exact f3))) ?_
    refine x_val rfl rfl rfl (v_assign rfl) ?_
    refine x_end ?_
    refine t_norm ?_
    refine w_ret ?_
    refine ret1 rfl rfl (fun w' hm => ⟨?_, hm.base (by simp)⟩)
    unfold txt; rw [txO_in k1 k2 k3]; rfl
end Go.Proofs.YtbamklefagghcaaGreatDoor

namespace Go.Proofs.YtbamklefagghcaaGreatDoor
open Go.RowKit Go.PK
set_option linter.unusedVariables false
set_option linter.unusedSimpArgs false
theorem c_Atoi (s : ByteArray) (w : World) (hs : s.size ≤ 281474976710656) (hL : LD w) :
    Calls Tryz.prog 62 #[.string s] w fun e w' => ∃ n ev b, e = .returned (.tuple #[.int .i64 n, ev]) ∧ Later w w' ∧ isIface ev b ∧ (b = false → Lib.atoiAll (bl s) = .ok n) ∧ (b = true → ∀ v, Lib.atoiAll (bl s) ≠ .ok v) := by
  obtain ⟨_, _, ⟨tp, p, h1⟩, ⟨tp2, p2, h2⟩⟩ := hL
  rcases hq : Lib.atoiAll s.data.toList with v | _ | _
  · refine (Tryz.strconv_Atoi_ok s (by omega) v hq w).mono fun e w' ⟨h3, h4⟩ => ⟨v, .nilIface, false, h3, ?_, .inl ⟨rfl, rfl⟩, fun _ => hq, fun h => by cases h⟩
    rcases h4 with rfl | ⟨t, rfl⟩
    · exact Later.refl _
    · exact Lib.bytesWorld_below w _ t
  · exact (Any.strconv_Atoi_syntax_var Tryz.laysC172 s hs hq tp p w h1).mono fun e w' ⟨N, h3, _, _, h4⟩ => ⟨_, _, true, h3, h4, .inr ⟨⟨_, _, rfl⟩, rfl⟩, (fun h => by cases h), (fun _ v h => by rw [show bl s = s.data.toList from rfl, hq] at h; cases h)⟩
  · exact (Tryz.strconv_Atoi_range_var s hs hq tp2 p2 w h2).mono fun e w' ⟨N, h3, _, _, h4⟩ => ⟨_, _, true, h3, h4, .inr ⟨⟨_, _, rfl⟩, rfl⟩, (fun h => by cases h), (fun _ v h => by rw [show bl s = s.data.toList from rfl, hq] at h; cases h)⟩
theorem c_Cut (s : ByteArray) (w : World) (hs : s.size ≤ 2000000000) (hL : LD w) :
    Calls Tryz.prog 63 #[.string s, .string ⟨#[46]⟩] w fun e w' => e = .returned (.tuple #[.string (cutD s).1, .string (cutD s).2.1, .bool (cutD s).2.2]) ∧ Later w w' := by
  obtain ⟨_, ⟨m, hm⟩, _⟩ := hL
  refine (Tryz.strings_Cut s ⟨#[46]⟩ m w (by omega) hm).mono fun e w' ⟨h1, n, h2⟩ => ⟨h1, ?_⟩
  rw [h2]; exact ⟨rfl, rfl, rfl, Nat.le_refl _, fun _ _ => rfl⟩
theorem readP_in (s : ByteArray) : in64 (readP s) := by
  unfold readP
  split
  · rename_i v h
    split
    · exact Lib.atoiAll_bounds h
    · unfold in64; decide
  · unfold in64; decide
theorem cutD_sz (s : ByteArray) : (cutD s).1.size ≤ s.size ∧ (cutD s).2.1.size ≤ s.size := by
  have e : s.size = (bl s).length := (bl_len s).symm
  unfold cutD Lib.cut
  split
  · constructor
    · show (List.toArray _).size ≤ _; rw [List.size_toArray, e]; exact List.length_take_le' _ _
    · show (List.toArray _).size ≤ _; rw [List.size_toArray, e, List.length_drop]; omega
  · constructor
    · show (List.toArray _).size ≤ _; rw [List.size_toArray, e]; exact Nat.le_refl _
    · exact Nat.zero_le _
def bigO (l : List Seg) : Prop := ∀ x ∈ l, ∀ y ∈ x.els, ∀ s ∈ y, s.size ≤ 2000000000
theorem txt_sz {l : List Seg} (h : bigO l) (n e c : Nat) : (txt l n e c).size ≤ 2000000000 := by
  unfold txt
  by_cases hin : n < l.length ∧ e < (segD l n).els.length ∧ c < (elsD (segD l n).els e).length
  · obtain ⟨k1, k2, k3⟩ := hin
    rw [txO_in k1 k2 k3]
    refine h (segD l n) ?_ (elsD (segD l n).els e) ?_ _ (List.getElem_mem k3)
    · unfold segD; rw [getD_at k1]; exact List.getElem_mem k1
    · unfold elsD; rw [getD_at k2]; exact List.getElem_mem k2
  · rw [txO_out hin]; exact Nat.zero_le _
set_option maxRecDepth 100000 in
theorem c_read (s : ByteArray) (w : World) (hs : s.size ≤ 281474976710656) (hL : LD w) :
    Calls Tryz.prog 39 #[.string s] w fun e w' => e = .returned (.int .i64 (readP s)) ∧ Later w w' := by
  refine enter (vs := [.string s]) Tryz.func39 rfl Tryz.ntmps39 rfl ?_
  refine w_seq ?_
  refine rg_text ?_
  refine x_val rfl rfl rfl (v_assign rfl) ?_
  refine x_end ?_
  refine t_norm ?_
  refine w_seq ?_
  refine rg_text ?_
  refine x_val rfl rfl rfl (v_move rfl) ?_
  refine x_call (R := fun v wa wb => ∃ n ev b, v = .tuple #[.int .i64 n, ev] ∧ isIface ev b ∧ (b = false → Lib.atoiAll (bl s) = .ok n) ∧ (b = true → ∀ v, Lib.atoiAll (bl s) ≠ .ok v)) rfl rfl rfl Tryz.func62 (by kernel_rfl) rfl (fun w1 hw1 => (c_Atoi s w1 hs (hL.later (hw1.base (by simp)))).mono fun e w2 ⟨n, ev, b, h1, h2, h3⟩ => ⟨_, h1, h2, n, ev, b, rfl, h3⟩) ?_
  intro v7 wa7 wb7 hm7 hl7 hR7
  obtain ⟨n, ev, b0, rfl, hi11, h1, h2⟩ := hR7
  refine x_val rfl rfl rfl (v_move rfl) ?_
  refine x_val rfl rfl rfl (v_extract rfl rfl) ?_
  refine x_val rfl rfl rfl (v_extract rfl rfl) ?_
  refine x_val rfl rfl rfl (v_assign rfl) ?_
  refine x_val rfl rfl rfl (v_assign rfl) ?_
  refine x_end ?_
  refine t_norm ?_
  refine w_seq ?_
  refine w_seq ?_
  refine rg_text ?_
  refine x_val rfl rfl rfl (v_move rfl) ?_
  refine x_bool rfl rfl rfl (v_ine Tryz.underlying84 rfl rfl hi11) ?_
  intro b11 hb11
  refine x_val rfl rfl rfl (v_move rfl) ?_
  refine x_if [] rfl rfl rfl rfl rfl (fun hg => by obtain ⟨hg0, _⟩ := hg; subst hg0; (try simp only [List.cons_append, List.nil_append, gvl_nil, gvl_t, gvl_f]); exact v_move rfl) ?_
  refine x_if [] rfl rfl rfl rfl rfl (fun hg => by obtain ⟨hg0, _⟩ := hg; subst hg0; (try simp only [List.cons_append, List.nil_append, gvl_nil, gvl_t, gvl_f]); exact v_len_str Tryz.underlying9 rfl) ?_
  refine x_ifb [] rfl rfl rfl rfl rfl (fun hg => by obtain ⟨hg0, _⟩ := hg; subst hg0; (try simp only [List.cons_append, List.nil_append, gvl_nil, gvl_t, gvl_f]); exact v_gtr rfl rfl) ?_
  intro b15 hb15
  refine x_bool rfl rfl rfl (v_or rfl rfl) ?_
  intro b16 hb16
  refine x_end ?_
  refine t_norm ?_
  refine w_cond rfl (fun hc16 => ?_) (fun hc16 => ?_)
  · have hneg : readP s = -1 := by
      unfold readP
      split
      · rename_i v hv
        rw [if_neg (fun h18 => ?_)]
        rw [hb16, hb15] at hc16
        rcases Bool.or_eq_true _ _ ▸ hc16 with h | h
        · exact h2 (hb11.symm.trans h) v hv
        · have := of_decide_eq_true h; omega
      · rfl
    refine w_seq ?_
    refine rg_text ?_
    refine x_val rfl rfl rfl (v_assign rfl) ?_
    refine x_end ?_
    refine t_norm ?_
    refine w_ret ?_
    refine t_ret ?_
    refine ret1 rfl rfl (fun w' hm => ⟨?_, hm.base (by simp)⟩)
    rw [hneg]
  · have hyes : readP s = n := by
      rw [hb16, hb15] at hc16
      obtain ⟨k1, k2⟩ := Bool.or_eq_false_iff.1 hc16
      have k3 := of_decide_eq_false k2
      unfold readP
      rw [h1 (hb11.symm.trans k1)]
      dsimp only
      rw [if_pos (by omega)]
    refine w_skip ?_
    refine t_norm ?_
    refine w_seq ?_
    refine rg_text ?_
    refine x_val rfl rfl rfl (v_move rfl) ?_
    refine x_val rfl rfl rfl (v_assign rfl) ?_
    refine x_end ?_
    refine t_norm ?_
    refine w_ret ?_
    refine ret1 rfl rfl (fun w' hm => ⟨?_, hm.base (by simp)⟩)
    rw [hyes]; rfl
set_option maxRecDepth 100000 in
theorem c_erec (s : ByteArray) (w : World) (hs : s.size ≤ 2000000000) (hL : LD w) :
    Calls Tryz.prog 41 #[.string s] w fun e w' => e = .returned (.agg #[.int .i64 (recS s).1, .int .i64 (recS s).2]) ∧ Later w w' := by
  refine enter (vs := [.string s]) Tryz.func41 rfl Tryz.ntmps41 rfl ?_
  refine w_seq ?_
  refine rg_text ?_
  refine x_alloc rfl rfl rfl zr23 ?_
  intro p2
  refine x_end ?_
  refine t_norm ?_
  refine w_seq ?_
  refine rg_text ?_
  refine x_val rfl rfl rfl (v_move rfl) ?_
  refine x_callv rfl rfl rfl Tryz.func63 (by kernel_rfl) rfl (fun w1 hw1 => c_Cut s w1 hs (hL.later (hw1.base (by simp)))) ?_
  refine x_val rfl rfl rfl (v_move rfl) ?_
  refine x_val rfl rfl rfl (v_extract rfl rfl) ?_
  refine x_val rfl rfl rfl (v_extract rfl rfl) ?_
  refine x_bool rfl rfl rfl (v_extract rfl rfl) ?_
  intro b11 hb11
  refine x_val rfl rfl rfl (v_assign rfl) ?_
  refine x_val rfl rfl rfl (v_assign rfl) ?_
  refine x_val rfl rfl rfl (v_assign rfl) ?_
  refine x_end ?_
  refine t_norm ?_
  refine w_seq ?_
  refine rg_text ?_
  refine x_val rfl rfl rfl (v_move rfl) ?_
  refine x_callv rfl rfl rfl Tryz.func39 (by kernel_rfl) rfl (fun w1 hw1 => c_read (cutD s).1 w1 (by have := (cutD_sz s).1; omega) (hL.later (hw1.base (by simp)))) ?_
  refine x_val rfl rfl rfl (v_move rfl) ?_
  refine x_callv rfl rfl rfl Tryz.func39 (by kernel_rfl) rfl (fun w1 hw1 => c_read (cutD s).2.1 w1 (by have := (cutD_sz s).2; omega) (hL.later (hw1.base (by simp)))) ?_
  refine x_val rfl rfl rfl (v_buildL (places := [(0, 1), (1, 1)]) Tryz.underlying23 zr23 (by kernel_rfl) rfl rfl) ?_
  refine x_store0 [] rfl rfl rfl rfl sz23 rfl rfl ?_
  refine x_end ?_
  refine t_norm ?_
  refine w_ret ?_
  refine retc (cs := #[.int .i64 (recS s).1, .int .i64 (recS s).2]) rfl rfl (.head _) Tryz.underlying23 rfl sz23 (fun w' hm => ⟨rfl, hm.base (by simp)⟩)
set_option maxRecDepth 100000 in
theorem c_SEq {u v : Value} {xs ys : List ByteArray} {D1 D2 : Nat → Prop} (w : World) (h1s : sliceRd tyStr D1 w u xs) (h2s : sliceRd tyStr D2 w v ys) :
    Calls Tryz.prog 67 #[u, v] w fun e w' => e = .returned (.bool (decide (xs = ys))) ∧ Later w w' := by
  obtain ⟨A1, c1, rfl, hl1, hm1, _⟩ := id h1s
  obtain ⟨A2, c2, rfl, hl2, hm2, _⟩ := id h2s
  refine enter (vs := [.slice A1 xs.length c1, .slice A2 ys.length c2]) Tryz.func67 rfl Tryz.ntmps67 rfl ?_
  refine w_seq ?_
  refine rg_text ?_
  refine x_val rfl rfl rfl (v_assign rfl) ?_
  refine x_end ?_
  refine t_norm ?_
  refine w_seq ?_
  refine w_seq ?_
  refine rg_text ?_
  refine x_val rfl rfl rfl (v_move rfl) ?_
  refine x_val rfl rfl rfl (v_len_slice Tryz.underlying54 rfl) ?_
  refine x_val rfl rfl rfl (v_move rfl) ?_
  refine x_val rfl rfl rfl (v_len_slice Tryz.underlying54 rfl) ?_
  refine x_bool rfl rfl rfl (v_neq rfl rfl) ?_
  intro b10 hb10
  refine x_end ?_
  refine t_norm ?_
  refine w_cond rfl (fun hc10 => ?_) (fun hc10 => ?_)
  · simp only [hb10, decide_eq_true_eq, decide_eq_false_iff_not, Bool.and_eq_true, Bool.or_eq_true, Bool.and_eq_false_iff, Bool.or_eq_false_iff, Bool.not_eq_true', Bool.not_eq_false', ne_eq, Decidable.not_not] at hc10
    have hne : xs ≠ ys := fun h => by rw [h] at hc10; exact hc10 rfl
    refine w_seq ?_
    refine rg_text ?_
    refine x_val rfl rfl rfl (v_assign rfl) ?_
    refine x_end ?_
    refine t_norm ?_
    refine w_ret ?_
    refine t_ret ?_
    refine ret1 rfl rfl (fun w' hm => ⟨?_, hm.base (by simp)⟩)
    rw [decide_eq_false (hne)]
  · simp only [hb10, decide_eq_true_eq, decide_eq_false_iff_not, Bool.and_eq_true, Bool.or_eq_true, Bool.and_eq_false_iff, Bool.or_eq_false_iff, Bool.not_eq_true', Bool.not_eq_false', ne_eq, Decidable.not_not] at hc10
    have hlen : xs.length = ys.length := by omega
    refine w_skip ?_
    refine t_norm ?_
    refine w_seq ?_
    refine w_seq ?_
    refine rg_text ?_
    refine x_val rfl rfl rfl (v_move rfl) ?_
    refine x_val rfl rfl rfl (v_len_slice Tryz.underlying54 rfl) ?_
    refine x_val rfl rfl rfl (v_move rfl) ?_
    refine x_end ?_
    refine t_norm ?_
    refine w_block ?_
    refine w_loop (σ := Nat) (fun x => x ≤ xs.length ∧ xs.take x = ys.take x) (fun x => [(0, Value.slice A1 xs.length c1), (1, Value.slice A2 ys.length c2), (11, Value.slice A1 xs.length c1), (12, Value.int .i64 (xs.length : Nat)), (13, Value.int .i64 (x : Nat))]) (fun x => []) (fun x => [(w, fun _ => True)]) (fun x => xs.length - x) (0) (⟨Nat.zero_le _, rfl⟩) (l_start (by repeat (first | exact Sub.nil | refine Sub.cons rfl ?_)) (fun _ h => h)) ?_
    rintro k ⟨hk, ht⟩
    refine w_state ([(0, Value.slice A1 xs.length c1), (1, Value.slice A2 ys.length c2), (11, Value.slice A1 xs.length c1), (12, Value.int .i64 (xs.length : Nat)), (13, Value.int .i64 (k : Nat))]) ([]) ([(w, fun _ => True)]) ?_
    refine w_seq ?_
    refine rg_text ?_
    refine x_bool rfl rfl rfl (v_lss rfl rfl) ?_
    intro b14 hb14
    refine x_end ?_
    refine t_norm ?_
    refine w_seq ?_
    refine w_cond rfl (fun hc14 => ?_) (fun hc14 => ?_)
    · simp only [hb14, decide_eq_true_eq, decide_eq_false_iff_not, Bool.and_eq_true, Bool.or_eq_true, Bool.and_eq_false_iff, Bool.or_eq_false_iff, Bool.not_eq_true', Bool.not_eq_false', ne_eq, Decidable.not_not] at hc14
      have h1 : k < xs.length := by omega
      have h2 : k < ys.length := by omega
      obtain ⟨b1, o1, hA1, _, t1, _⟩ := s_at h1s h1
      obtain ⟨b2, o2, hA2, _, t2, _⟩ := s_at h2s h2
      refine w_skip ?_
      refine t_norm ?_
      refine w_seq ?_
      refine w_block ?_
      refine w_seq ?_
      refine rg_text ?_
      refine x_val rfl rfl rfl (v_move rfl) ?_
      refine x_val rfl rfl rfl (v_assign rfl) ?_
      refine x_end ?_
      refine t_norm ?_
      refine w_seq ?_
      refine rg_draw 9 [(true, 0), (true, 1), (true, 2), (true, 3), (true, 4), (true, 5), (true, 6), (true, 7), (true, 8)] (by kernel_rfl) (by kernel_rfl) ?_
      refine x_val rfl rfl rfl (v_move rfl) ?_
      refine x_val rfl rfl rfl (v_move rfl) ?_
      refine x_val rfl rfl rfl (v_indexAddr Tryz.underlying54 sz9 (congrArg (fun A => some (Value.slice A xs.length c1)) hA1) rfl (by first | omega | (dsimp only; omega)) rfl) ?_
      refine x_val rfl rfl rfl (v_load Tryz.underlying9 rfl rfl (at_ro (.head _) trivial (by rw [Nat.mul_one]; exact t1))) ?_
      refine x_val rfl rfl rfl (v_move rfl) ?_
      refine x_val rfl rfl rfl (v_move rfl) ?_
      refine x_val rfl rfl rfl (v_indexAddr Tryz.underlying54 sz9 (congrArg (fun A => some (Value.slice A ys.length c2)) hA2) rfl (by first | omega | (dsimp only; omega)) rfl) ?_
      refine x_val rfl rfl rfl (v_load Tryz.underlying9 rfl rfl (at_ro (.head _) trivial (by rw [Nat.mul_one]; exact t2))) ?_
      refine x_bool rfl rfl rfl (v_sneq rfl rfl) ?_
      intro b24 hb24
      refine x_end ?_
      refine t_norm ?_
      refine w_cond rfl (fun hc24 => ?_) (fun hc24 => ?_)
      · simp only [hb24, decide_eq_true_eq, decide_eq_false_iff_not, Bool.and_eq_true, Bool.or_eq_true, Bool.and_eq_false_iff, Bool.or_eq_false_iff, Bool.not_eq_true', Bool.not_eq_false', ne_eq, Decidable.not_not] at hc24
        have hne : xs ≠ ys := ne_at h1 h2 hc24
        refine w_seq ?_
        refine rg_text ?_
        refine x_val rfl rfl rfl (v_assign rfl) ?_
        refine x_end ?_
        refine t_norm ?_
        refine w_ret ?_
        refine b_ret ?_
        refine t_ret ?_
        refine t_ret ?_
        refine b_ret ?_
        refine t_ret ?_
        refine ret1 rfl rfl (fun w' hm => ⟨?_, hm.base (by simp)⟩)
        rw [decide_eq_false (hne)]
      · simp only [hb24, decide_eq_true_eq, decide_eq_false_iff_not, Bool.and_eq_true, Bool.or_eq_true, Bool.and_eq_false_iff, Bool.or_eq_false_iff, Bool.not_eq_true', Bool.not_eq_false', ne_eq, Decidable.not_not] at hc24
        refine w_skip ?_
        refine b_norm ?_
        refine t_norm ?_
        refine rg_text ?_
        refine x_val rfl rfl rfl (v_addi rfl rfl rfl (by first | omega | (dsimp only; omega))) ?_
        refine x_val rfl rfl rfl (v_move rfl) ?_
        refine x_end ?_
        exact l_norm (k + 1) ⟨by omega, take_eq_succ h1 h2 ht hc24⟩ (by omega) (by repeat (first | exact Sub.nil | refine Sub.cons rfl ?_)) (fun _ h => h)
    · simp only [hb14, decide_eq_true_eq, decide_eq_false_iff_not, Bool.and_eq_true, Bool.or_eq_true, Bool.and_eq_false_iff, Bool.or_eq_false_iff, Bool.not_eq_true', Bool.not_eq_false', ne_eq, Decidable.not_not] at hc14
      obtain rfl : k = xs.length := by omega
      refine w_exit ?_
      refine t_exit ?_
      refine t_exit ?_
      refine b_hit ?_
      refine t_norm ?_
      refine w_seq ?_
      refine rg_text ?_
      refine x_val rfl rfl rfl (v_assign rfl) ?_
      refine x_end ?_
      refine t_norm ?_
      refine w_ret ?_
      refine ret1 rfl rfl (fun w' hm => ⟨?_, hm.base (by simp)⟩)
      rw [decide_eq_true (take_all hlen ht)]
set_option maxRecDepth 100000 in
theorem c_EF2 {u v : Value} {xs ys : List (List ByteArray)} {D1 D2 : Nat → Prop} (w : World) (h1s : sliceRd (tySlice tyStr) D1 w u xs) (h2s : sliceRd (tySlice tyStr) D2 w v ys) :
    Calls Tryz.prog 66 #[u, v, .func (.func 67) #[] #[]] w fun e w' => e = .returned (.bool (decide (xs = ys))) ∧ Later w w' := by
  obtain ⟨A1, c1, rfl, hl1, hm1, _⟩ := id h1s
  obtain ⟨A2, c2, rfl, hl2, hm2, _⟩ := id h2s
  refine enter (vs := [.slice A1 xs.length c1, .slice A2 ys.length c2, .func (.func 67) #[] #[]]) Tryz.func66 rfl Tryz.ntmps66 rfl ?_
  refine w_seq ?_
  refine rg_text ?_
  refine x_val rfl rfl rfl (v_assign rfl) ?_
  refine x_end ?_
  refine t_norm ?_
  refine w_seq ?_
  refine w_seq ?_
  refine rg_text ?_
  refine x_val rfl rfl rfl (v_move rfl) ?_
  refine x_val rfl rfl rfl (v_len_slice Tryz.underlying47 rfl) ?_
  refine x_val rfl rfl rfl (v_move rfl) ?_
  refine x_val rfl rfl rfl (v_len_slice Tryz.underlying47 rfl) ?_
  refine x_bool rfl rfl rfl (v_neq rfl rfl) ?_
  intro b14 hb14
  refine x_end ?_
  refine t_norm ?_
  refine w_cond rfl (fun hc14 => ?_) (fun hc14 => ?_)
  · simp only [hb14, decide_eq_true_eq, decide_eq_false_iff_not, Bool.and_eq_true, Bool.or_eq_true, Bool.and_eq_false_iff, Bool.or_eq_false_iff, Bool.not_eq_true', Bool.not_eq_false', ne_eq, Decidable.not_not] at hc14
    have hne : xs ≠ ys := fun h => by rw [h] at hc14; exact hc14 rfl
    refine w_seq ?_
    refine rg_text ?_
    refine x_val rfl rfl rfl (v_assign rfl) ?_
    refine x_end ?_
    refine t_norm ?_
    refine w_ret ?_
    refine t_ret ?_
    refine ret1 rfl rfl (fun w' hm => ⟨?_, hm.base (by simp)⟩)
    rw [decide_eq_false (hne)]
  · simp only [hb14, decide_eq_true_eq, decide_eq_false_iff_not, Bool.and_eq_true, Bool.or_eq_true, Bool.and_eq_false_iff, Bool.or_eq_false_iff, Bool.not_eq_true', Bool.not_eq_false', ne_eq, Decidable.not_not] at hc14
    have hlen : xs.length = ys.length := by omega
    refine w_skip ?_
    refine t_norm ?_
    refine w_seq ?_
    refine w_seq ?_
    refine rg_text ?_
    refine x_val rfl rfl rfl (v_move rfl) ?_
    refine x_val rfl rfl rfl (v_len_slice Tryz.underlying47 rfl) ?_
    refine x_val rfl rfl rfl (v_move rfl) ?_
    refine x_end ?_
    refine t_norm ?_
    refine w_block ?_
    refine w_loop (σ := Nat) (fun x => x ≤ xs.length ∧ xs.take x = ys.take x) (fun x => [(0, Value.slice A1 xs.length c1), (1, Value.slice A2 ys.length c2), (2, Value.func (.func 67) #[] #[]), (15, Value.slice A1 xs.length c1), (16, Value.int .i64 (xs.length : Nat)), (17, Value.int .i64 (x : Nat))]) (fun x => []) (fun x => [(w, fun _ => True)]) (fun x => xs.length - x) (0) (⟨Nat.zero_le _, rfl⟩) (l_start (by repeat (first | exact Sub.nil | refine Sub.cons rfl ?_)) (fun _ h => h)) ?_
    rintro k ⟨hk, ht⟩
    refine w_state ([(0, Value.slice A1 xs.length c1), (1, Value.slice A2 ys.length c2), (2, Value.func (.func 67) #[] #[]), (15, Value.slice A1 xs.length c1), (16, Value.int .i64 (xs.length : Nat)), (17, Value.int .i64 (k : Nat))]) ([]) ([(w, fun _ => True)]) ?_
    refine w_seq ?_
    refine rg_text ?_
    refine x_bool rfl rfl rfl (v_lss rfl rfl) ?_
    intro b18 hb18
    refine x_end ?_
    refine t_norm ?_
    refine w_seq ?_
    refine w_cond rfl (fun hc18 => ?_) (fun hc18 => ?_)
    · simp only [hb18, decide_eq_true_eq, decide_eq_false_iff_not, Bool.and_eq_true, Bool.or_eq_true, Bool.and_eq_false_iff, Bool.or_eq_false_iff, Bool.not_eq_true', Bool.not_eq_false', ne_eq, Decidable.not_not] at hc18
      have h1 : k < xs.length := by omega
      have h2 : k < ys.length := by omega
      obtain ⟨b1, o1, u1, hA1, _, t1, r1⟩ := sl_at h1s h1
      obtain ⟨b2, o2, u2, hA2, _, t2, r2⟩ := sl_at h2s h2
      obtain ⟨B1, d1, rfl, _⟩ := id r1
      obtain ⟨B2, d2, rfl, _⟩ := id r2
      refine w_skip ?_
      refine t_norm ?_
      refine w_seq ?_
      refine w_block ?_
      refine w_seq ?_
      refine rg_text ?_
      refine x_val rfl rfl rfl (v_move rfl) ?_
      refine x_val rfl rfl rfl (v_indexAddr Tryz.underlying47 sz54 (congrArg (fun A => some (Value.slice A xs.length c1)) hA1) rfl (by first | omega | (dsimp only; omega)) rfl) ?_
      refine x_val rfl rfl rfl (v_load Tryz.underlying54 rfl rfl (at_ro (.head _) trivial (by rw [Nat.mul_one]; exact t1))) ?_
      refine x_val rfl rfl rfl (v_assign rfl) ?_
      refine x_val rfl rfl rfl (v_assign rfl) ?_
      refine x_end ?_
      refine t_norm ?_
      refine w_seq ?_
      refine rg_text ?_
      refine x_val rfl rfl rfl (v_move rfl) ?_
      refine x_val rfl rfl rfl (v_move rfl) ?_
      refine x_val rfl rfl rfl (v_indexAddr Tryz.underlying47 sz54 (congrArg (fun A => some (Value.slice A ys.length c2)) hA2) rfl (by first | omega | (dsimp only; omega)) rfl) ?_
      refine x_val rfl rfl rfl (v_load Tryz.underlying54 rfl rfl (at_ro (.head _) trivial (by rw [Nat.mul_one]; exact t2))) ?_
      refine x_val rfl rfl rfl (v_assign rfl) ?_
      refine x_end ?_
      refine t_norm ?_
      refine w_seq ?_
      refine rg_text ?_
      refine x_val rfl rfl rfl (v_move rfl) ?_
      refine x_val rfl rfl rfl (v_move rfl) ?_
      refine x_val rfl rfl rfl (v_move rfl) ?_
      refine x_clb rfl rfl rfl rfl Tryz.func67 (by kernel_rfl) rfl (fun w1 hw1 => by exact calls_clp (c_SEq (xs := xs[k]) (ys := ys[k]) w1 (r1.keep (Kept.later (hw1.base (by simp)))) (r2.keep (Kept.later (hw1.base (by simp)))))) ?_
      intro b29 hb29
      refine x_bool rfl rfl rfl (v_not rfl) ?_
      intro b30 hb30
      refine x_end ?_
      refine t_norm ?_
      refine w_cond rfl (fun hc30 => ?_) (fun hc30 => ?_)
      · have hne : xs ≠ ys := ne_at h1 h2 (fun h => by rw [hb30, hb29, decide_eq_true h] at hc30; cases hc30)
        refine w_seq ?_
        refine rg_text ?_
        refine x_val rfl rfl rfl (v_assign rfl) ?_
        refine x_end ?_
        refine t_norm ?_
        refine w_ret ?_
        refine b_ret ?_
        refine t_ret ?_
        refine t_ret ?_
        refine b_ret ?_
        refine t_ret ?_
        refine ret1 rfl rfl (fun w' hm => ⟨?_, hm.base (by simp)⟩)
        rw [decide_eq_false (hne)]
      · have heq : xs[k] = ys[k] := by
          rw [hb30, hb29] at hc30
          exact of_decide_eq_true (by simpa using hc30)
        refine w_skip ?_
        refine b_norm ?_
        refine t_norm ?_
        refine rg_text ?_
        refine x_val rfl rfl rfl (v_addi rfl rfl rfl (by first | omega | (dsimp only; omega))) ?_
        refine x_val rfl rfl rfl (v_move rfl) ?_
        refine x_end ?_
        exact l_norm (k + 1) ⟨by omega, take_eq_succ h1 h2 ht heq⟩ (by omega) (by repeat (first | exact Sub.nil | refine Sub.cons rfl ?_)) (fun _ h => h)
    · simp only [hb18, decide_eq_true_eq, decide_eq_false_iff_not, Bool.and_eq_true, Bool.or_eq_true, Bool.and_eq_false_iff, Bool.or_eq_false_iff, Bool.not_eq_true', Bool.not_eq_false', ne_eq, Decidable.not_not] at hc18
      obtain rfl : k = xs.length := by omega
      refine w_exit ?_
      refine t_exit ?_
      refine t_exit ?_
      refine b_hit ?_
      refine t_norm ?_
      refine w_seq ?_
      refine rg_text ?_
      refine x_val rfl rfl rfl (v_assign rfl) ?_
      refine x_end ?_
      refine t_norm ?_
      refine w_ret ?_
      refine ret1 rfl rfl (fun w' hm => ⟨?_, hm.base (by simp)⟩)
      rw [decide_eq_true (take_all hlen ht)]
set_option maxRecDepth 100000 in
theorem c_same1 {u v : Value} {x y : Seg} {D1 D2 : Nat → Prop} (w : World) (h1s : sliceRd (tySlice tyStr) D1 w u x.els) (h2s : sliceRd (tySlice tyStr) D2 w v y.els) :
    Calls Tryz.prog 65 #[.agg #[.string x.tag, u], .agg #[.string y.tag, v]] w fun e w' => e = .returned (.bool (decide (x = y))) ∧ Later w w' := by
  refine enter (vs := [.agg #[.string x.tag, u], .agg #[.string y.tag, v]]) Tryz.func65 rfl Tryz.ntmps65 rfl ?_
  refine w_seq ?_
  refine rg_text ?_
  refine x_box rfl rfl rfl rfl ?_
  intro p2
  refine x_box rfl rfl rfl rfl ?_
  intro p3
  refine x_val rfl rfl rfl (v_assign rfl) ?_
  refine x_end ?_
  refine t_norm ?_
  refine w_seq ?_
  refine rg_text ?_
  refine x_val rfl rfl rfl (v_fieldAddr (off' := 0) Tryz.underlying49 rfl sz9 (by decide) rfl rfl) ?_
  refine x_val rfl rfl rfl (v_load Tryz.underlying9 rfl rfl (at_ownL (vs := [Value.string x.tag, u]) (.tail _ (.head _)) rfl)) ?_
  refine x_val rfl rfl rfl (v_fieldAddr (off' := 0) Tryz.underlying49 rfl sz9 (by decide) rfl rfl) ?_
  refine x_val rfl rfl rfl (v_load Tryz.underlying9 rfl rfl (at_ownL (vs := [Value.string y.tag, v]) (.head _) rfl)) ?_
  refine x_bool rfl rfl rfl (v_seql rfl rfl) ?_
  intro b9 hb9
  refine x_val rfl rfl rfl (v_move rfl) ?_
  refine x_if [] rfl rfl rfl rfl rfl (fun hg => by obtain ⟨hg0, _⟩ := hg; subst hg0; (try simp only [List.cons_append, List.nil_append, gvl_nil, gvl_t, gvl_f]); exact v_fieldAddr (off' := 1) Tryz.underlying49 rfl sz47 (by decide) rfl rfl) ?_
  refine x_if [] rfl rfl rfl rfl rfl (fun hg => by obtain ⟨hg0, _⟩ := hg; subst hg0; (try simp only [List.cons_append, List.nil_append, gvl_nil, gvl_t, gvl_f]); exact v_load Tryz.underlying47 rfl rfl (at_ownL (vs := [Value.string x.tag, u]) (.tail _ (.head _)) rfl)) ?_
  refine x_if [] rfl rfl rfl rfl rfl (fun hg => by obtain ⟨hg0, _⟩ := hg; subst hg0; (try simp only [List.cons_append, List.nil_append, gvl_nil, gvl_t, gvl_f]); exact v_fieldAddr (off' := 1) Tryz.underlying49 rfl sz47 (by decide) rfl rfl) ?_
  refine x_if [] rfl rfl rfl rfl rfl (fun hg => by obtain ⟨hg0, _⟩ := hg; subst hg0; (try simp only [List.cons_append, List.nil_append, gvl_nil, gvl_t, gvl_f]); exact v_load Tryz.underlying47 rfl rfl (at_ownL (vs := [Value.string y.tag, v]) (.head _) rfl)) ?_
  refine x_call_ifb [] rfl rfl rfl rfl rfl Tryz.func66 (by kernel_rfl) (fun hg => by obtain ⟨hg0, _⟩ := hg; subst hg0; (try simp only [List.cons_append, List.nil_append, gvl_nil, gvl_t, gvl_f]); refine ⟨_, rfl, ?_⟩; exact fun w1 hw1 => c_EF2 (xs := x.els) (ys := y.els) w1 (h1s.keep (Kept.later (hw1.base (by simp)))) (h2s.keep (Kept.later (hw1.base (by simp))))) ?_
  intro b15 hb15
  refine x_bool rfl rfl rfl (v_and rfl rfl) ?_
  intro b16 hb16
  refine x_val rfl rfl rfl (v_assign rfl) ?_
  refine x_end ?_
  refine t_norm ?_
  refine w_ret ?_
  refine ret1 rfl rfl (fun w' hm => ⟨?_, hm.base (by simp)⟩)
  congr 3
  rw [hb16, hb15, hb9, Bool.eq_iff_iff]
  simp only [Bool.and_eq_true, decide_eq_true_eq]
  constructor
  · rintro ⟨h1, h2⟩; exact seg_ext h1 h2
  · rintro rfl; exact ⟨rfl, rfl⟩
set_option maxRecDepth 100000 in
theorem c_EF1 {u v : Value} {xs ys : List Seg} {D1 D2 : Nat → Prop} (w : World) (h1s : sliceRd tySeg D1 w u xs) (h2s : sliceRd tySeg D2 w v ys) :
    Calls Tryz.prog 64 #[u, v, .func (.func 65) #[] #[]] w fun e w' => e = .returned (.bool (decide (xs = ys))) ∧ Later w w' := by
  obtain ⟨A1, c1, rfl, hl1, hm1, _⟩ := id h1s
  obtain ⟨A2, c2, rfl, hl2, hm2, _⟩ := id h2s
  refine enter (vs := [.slice A1 xs.length c1, .slice A2 ys.length c2, .func (.func 65) #[] #[]]) Tryz.func64 rfl Tryz.ntmps64 rfl ?_
  refine w_seq ?_
  refine rg_text ?_
  refine x_val rfl rfl rfl (v_assign rfl) ?_
  refine x_end ?_
  refine t_norm ?_
  refine w_seq ?_
  refine w_seq ?_
  refine rg_text ?_
  refine x_val rfl rfl rfl (v_move rfl) ?_
  refine x_val rfl rfl rfl (v_len_slice Tryz.underlying29 rfl) ?_
  refine x_val rfl rfl rfl (v_move rfl) ?_
  refine x_val rfl rfl rfl (v_len_slice Tryz.underlying29 rfl) ?_
  refine x_bool rfl rfl rfl (v_neq rfl rfl) ?_
  intro b14 hb14
  refine x_end ?_
  refine t_norm ?_
  refine w_cond rfl (fun hc14 => ?_) (fun hc14 => ?_)
  · simp only [hb14, decide_eq_true_eq, decide_eq_false_iff_not, Bool.and_eq_true, Bool.or_eq_true, Bool.and_eq_false_iff, Bool.or_eq_false_iff, Bool.not_eq_true', Bool.not_eq_false', ne_eq, Decidable.not_not] at hc14
    have hne : xs ≠ ys := fun h => by rw [h] at hc14; exact hc14 rfl
    refine w_seq ?_
    refine rg_text ?_
    refine x_val rfl rfl rfl (v_assign rfl) ?_
    refine x_end ?_
    refine t_norm ?_
    refine w_ret ?_
    refine t_ret ?_
    refine ret1 rfl rfl (fun w' hm => ⟨?_, hm.base (by simp)⟩)
    rw [decide_eq_false (hne)]
  · simp only [hb14, decide_eq_true_eq, decide_eq_false_iff_not, Bool.and_eq_true, Bool.or_eq_true, Bool.and_eq_false_iff, Bool.or_eq_false_iff, Bool.not_eq_true', Bool.not_eq_false', ne_eq, Decidable.not_not] at hc14
    have hlen : xs.length = ys.length := by omega
    refine w_skip ?_
    refine t_norm ?_
    refine w_seq ?_
    refine w_seq ?_
    refine rg_text ?_
    refine x_val rfl rfl rfl (v_move rfl) ?_
    refine x_val rfl rfl rfl (v_len_slice Tryz.underlying29 rfl) ?_
    refine x_val rfl rfl rfl (v_move rfl) ?_
    refine x_end ?_
    refine t_norm ?_
    refine w_block ?_
    refine w_loop (σ := Nat) (fun x => x ≤ xs.length ∧ xs.take x = ys.take x) (fun x => [(0, Value.slice A1 xs.length c1), (1, Value.slice A2 ys.length c2), (2, Value.func (.func 65) #[] #[]), (15, Value.slice A1 xs.length c1), (16, Value.int .i64 (xs.length : Nat)), (17, Value.int .i64 (x : Nat))]) (fun x => []) (fun x => [(w, fun _ => True)]) (fun x => xs.length - x) (0) (⟨Nat.zero_le _, rfl⟩) (l_start (by repeat (first | exact Sub.nil | refine Sub.cons rfl ?_)) (fun _ h => h)) ?_
    rintro k ⟨hk, ht⟩
    refine w_state ([(0, Value.slice A1 xs.length c1), (1, Value.slice A2 ys.length c2), (2, Value.func (.func 65) #[] #[]), (15, Value.slice A1 xs.length c1), (16, Value.int .i64 (xs.length : Nat)), (17, Value.int .i64 (k : Nat))]) ([]) ([(w, fun _ => True)]) ?_
    refine w_seq ?_
    refine rg_text ?_
    refine x_bool rfl rfl rfl (v_lss rfl rfl) ?_
    intro b18 hb18
    refine x_end ?_
    refine t_norm ?_
    refine w_seq ?_
    refine w_cond rfl (fun hc18 => ?_) (fun hc18 => ?_)
    · simp only [hb18, decide_eq_true_eq, decide_eq_false_iff_not, Bool.and_eq_true, Bool.or_eq_true, Bool.and_eq_false_iff, Bool.or_eq_false_iff, Bool.not_eq_true', Bool.not_eq_false', ne_eq, Decidable.not_not] at hc18
      have h1 : k < xs.length := by omega
      have h2 : k < ys.length := by omega
      obtain ⟨b1, o1, u1, hA1, _, t1, v1, _, r1⟩ := seg_at h1s h1
      obtain ⟨b2, o2, u2, hA2, _, t2, v2, _, r2⟩ := seg_at h2s h2
      obtain ⟨B1, d1, rfl, _⟩ := id r1
      obtain ⟨B2, d2, rfl, _⟩ := id r2
      refine w_skip ?_
      refine t_norm ?_
      refine w_seq ?_
      refine w_block ?_
      refine w_seq ?_
      refine rg_text ?_
      refine x_val rfl rfl rfl (v_move rfl) ?_
      refine x_val rfl rfl rfl (v_indexAddr Tryz.underlying29 sz49 (congrArg (fun A => some (Value.slice A xs.length c1)) hA1) rfl (by first | omega | (dsimp only; omega)) rfl) ?_
      refine x_val rfl rfl rfl (v_loadN (vs := [Value.string xs[k].tag, .slice B1 xs[k].els.length d1]) Tryz.underlying49 rfl sz49 rfl (fun i hi => by match i, hi with | 0, _ => exact at_ro (.head _) trivial t1 | 1, _ => exact at_ro (.head _) trivial v1)) ?_
      refine x_alloc rfl rfl rfl zr49 ?_
      intro p8
      refine x_val rfl rfl rfl (v_assign rfl) ?_
      refine x_store0 [] rfl rfl rfl rfl sz49 rfl rfl ?_
      refine x_end ?_
      refine t_norm ?_
      refine w_seq ?_
      refine rg_text ?_
      refine x_val rfl rfl rfl (v_move rfl) ?_
      refine x_val rfl rfl rfl (v_move rfl) ?_
      refine x_val rfl rfl rfl (v_indexAddr Tryz.underlying29 sz49 (congrArg (fun A => some (Value.slice A ys.length c2)) hA2) rfl (by first | omega | (dsimp only; omega)) rfl) ?_
      refine x_val rfl rfl rfl (v_loadN (vs := [Value.string ys[k].tag, .slice B2 ys[k].els.length d2]) Tryz.underlying49 rfl sz49 rfl (fun i hi => by match i, hi with | 0, _ => exact at_ro (.head _) trivial t2 | 1, _ => exact at_ro (.head _) trivial v2)) ?_
      refine x_alloc rfl rfl rfl zr49 ?_
      intro p9
      refine x_store0 [] rfl rfl rfl rfl sz49 rfl rfl ?_
      refine x_end ?_
      refine t_norm ?_
      refine w_seq ?_
      refine rg_text ?_
      refine x_val rfl rfl rfl (v_move rfl) ?_
      refine x_val rfl rfl rfl (v_load_blk (e := 49) (fz := (0, 0)) (cs := [Value.string xs[k].tag, .slice B1 xs[k].els.length d1].toArray) Tryz.underlying49 rfl rfl (.tail _ (.head _)) sz49) ?_
      refine x_val rfl rfl rfl (v_load_blk (e := 49) (fz := (0, 0)) (cs := [Value.string ys[k].tag, .slice B2 ys[k].els.length d2].toArray) Tryz.underlying49 rfl rfl (.head _) sz49) ?_
      refine x_clb rfl rfl rfl rfl Tryz.func65 (by kernel_rfl) rfl (fun w1 hw1 => by exact calls_clp (c_same1 (x := xs[k]) (y := ys[k]) w1 (r1.keep (Kept.later (hw1.base (by simp)))) (r2.keep (Kept.later (hw1.base (by simp)))))) ?_
      intro b29 hb29
      refine x_bool rfl rfl rfl (v_not rfl) ?_
      intro b30 hb30
      refine x_end ?_
      refine t_norm ?_
      refine w_cond rfl (fun hc30 => ?_) (fun hc30 => ?_)
      · have hne : xs ≠ ys := ne_at h1 h2 (fun h => by rw [hb30, hb29, decide_eq_true h] at hc30; cases hc30)
        refine w_seq ?_
        refine rg_text ?_
        refine x_val rfl rfl rfl (v_assign rfl) ?_
        refine x_end ?_
        refine t_norm ?_
        refine w_ret ?_
        refine b_ret ?_
        refine t_ret ?_
        refine t_ret ?_
        refine b_ret ?_
        refine t_ret ?_
        refine ret1 rfl rfl (fun w' hm => ⟨?_, hm.base (by simp)⟩)
        rw [decide_eq_false (hne)]
      · have heq : xs[k] = ys[k] := by
          rw [hb30, hb29] at hc30
          exact of_decide_eq_true (by simpa using hc30)
        refine w_skip ?_
        refine b_norm ?_
        refine t_norm ?_
        refine rg_text ?_
        refine x_val rfl rfl rfl (v_addi rfl rfl rfl (by first | omega | (dsimp only; omega))) ?_
        refine x_val rfl rfl rfl (v_move rfl) ?_
        refine x_end ?_
        exact l_norm (k + 1) ⟨by omega, take_eq_succ h1 h2 ht heq⟩ (by omega) (by repeat (first | exact Sub.nil | refine Sub.cons rfl ?_)) (fun _ h => h.less (List.nil_sublist _) (fun _ h => h))
    · simp only [hb18, decide_eq_true_eq, decide_eq_false_iff_not, Bool.and_eq_true, Bool.or_eq_true, Bool.and_eq_false_iff, Bool.or_eq_false_iff, Bool.not_eq_true', Bool.not_eq_false', ne_eq, Decidable.not_not] at hc18
      obtain rfl : k = xs.length := by omega
      refine w_exit ?_
      refine t_exit ?_
      refine t_exit ?_
      refine b_hit ?_
      refine t_norm ?_
      refine w_seq ?_
      refine rg_text ?_
      refine x_val rfl rfl rfl (v_assign rfl) ?_
      refine x_end ?_
      refine t_norm ?_
      refine w_ret ?_
      refine ret1 rfl rfl (fun w' hm => ⟨?_, hm.base (by simp)⟩)
      rw [decide_eq_true (take_all hlen ht)]
set_option maxRecDepth 100000 in
theorem c_same {u v : Value} {xs ys : List Seg} {D1 D2 : Nat → Prop} (w : World) (h1s : sliceRd tySeg D1 w u xs) (h2s : sliceRd tySeg D2 w v ys) :
    Calls Tryz.prog 42 #[u, v] w fun e w' => e = .returned (.bool (decide (xs = ys))) ∧ Later w w' := by
  refine enter (vs := [u, v]) Tryz.func42 rfl Tryz.ntmps42 rfl ?_
  refine w_seq ?_
  refine rg_text ?_
  refine x_val rfl rfl rfl (v_assign rfl) ?_
  refine x_end ?_
  refine t_norm ?_
  refine w_seq ?_
  refine rg_text ?_
  refine x_val rfl rfl rfl (v_move rfl) ?_
  refine x_val rfl rfl rfl (v_move rfl) ?_
  refine x_callb rfl rfl rfl Tryz.func64 (by kernel_rfl) rfl (fun w1 hw1 => c_EF1 w1 (h1s.keep (Kept.later (hw1.base (by simp)))) (h2s.keep (Kept.later (hw1.base (by simp))))) ?_
  intro b7 hb7
  refine x_val rfl rfl rfl (v_assign rfl) ?_
  refine x_end ?_
  refine t_norm ?_
  refine w_ret ?_
  refine ret1 rfl rfl (fun w' hm => ⟨?_, hm.base (by simp)⟩)
  rw [hb7]

end Go.Proofs.YtbamklefagghcaaGreatDoor

namespace Go.Proofs.YtbamklefagghcaaGreatDoor
open Go.RowKit Go.PK
set_option linter.unusedVariables false
set_option linter.unusedSimpArgs false

theorem ord_out {v : Value} {e : Ending} {wa wb : World} {xs : List Seg} (h1 : e = .returned v) (h2 : Later wa wb) (h3 : sliceRd tySeg (fun b => wa.heap.size ≤ b) wb v xs) (h4 : xs.length = 0 → v = .slice none 0 0) :
    ∃ v, e = .returned v ∧ Later wa wb ∧ ∃ A1 c1, v = .slice A1 xs.length c1 ∧ sliceRd tySeg (fun b => wa.heap.size ≤ b) wb (.slice A1 xs.length c1) xs ∧ A1.isNone = decide (xs.length = 0) := by
  obtain ⟨A1, c1, rfl, _, _, hh⟩ := id h3
  refine ⟨_, h1, h2, A1, c1, rfl, h3, ?_⟩
  by_cases h0 : xs.length = 0
  · have h5 := h4 h0
    injection h5 with h5
    rw [h5, decide_eq_true h0]; rfl
  · obtain ⟨b, o, rfl, _⟩ := hh (by omega)
    rw [decide_eq_false h0]; rfl
end Go.Proofs.YtbamklefagghcaaGreatDoor

namespace Go.Proofs.YtbamklefagghcaaGreatDoor
open Go.RowKit Go.PK
set_option linter.unusedVariables false
set_option linter.unusedSimpArgs false

theorem eq23 (w : World) (a b a' b' : Int) : (Op.equalIn 9999 23 (.agg #[.int .i64 a, .int .i64 b]) (.agg #[.int .i64 a', .int .i64 b'])).run Tryz.prog w = .ok (decide (a = a' ∧ b = b')) w := by
  have hf : (Tryz.prog.fieldsOf 23).toList = [⟨ "Source", 3, 0, false, "", "", 0⟩, ⟨ "Number", 3, 1, false, "", "", 8⟩] := by kernel_rfl
  rw [run_equalIn_struct w 9998 23 _ _ (by kernel_rfl) (by kernel_rfl), hf]
  simp only [Op.eqFields, part]
  simp [run_isAgg Tryz.underlying3, PK.run_sizeOf sz3, aggT, run_equalIn_int w 9997 3 .i64 .i64 _ _ Tryz.underlying3]
  by_cases h1 : a = a' <;> by_cases h2 : b = b' <;> simp [h1, h2]
theorem eq25 (w : World) (r s : Ord) : (Op.equalIn 10000 25 (.agg r.cells.toArray) (.agg s.cells.toArray)).run Tryz.prog w = .ok (decide (r = s)) w := by
  have hf : (Tryz.prog.fieldsOf 25).toList = [⟨ "Id", 3, 0, false, "", "", 0⟩, ⟨ "Fund", 3, 1, false, "", "", 8⟩, ⟨ "Rec", 23, 2, false, "", "", 16⟩, ⟨ "Copies", 3, 4, false, "", "", 32⟩, ⟨ "Price", 3, 5, false, "", "", 40⟩, ⟨ "Promised", 3, 6, false, "", "", 48⟩, ⟨ "Paid", 3, 7, false, "", "", 56⟩, ⟨ "State", 3, 8, false, "", "", 64⟩] := by kernel_rfl
  rw [run_equalIn_struct w 9999 25 _ _ (by kernel_rfl) (by kernel_rfl), hf]
  simp only [Op.eqFields, part, Ord.cells]
  obtain ⟨r1, r2, r3, r4, r5, r6, r7, r8, r9⟩ := r
  obtain ⟨s1, s2, s3, s4, s5, s6, s7, s8, s9⟩ := s
  simp [run_isAgg Tryz.underlying3, run_isAgg Tryz.underlying23, PK.run_sizeOf sz3, PK.run_sizeOf sz23, aggT, run_equalIn_int w 9998 3 .i64 .i64 _ _ Tryz.underlying3, eq23, Ord.mk.injEq]
  by_cases h1 : r1 = s1 <;> by_cases h2 : r2 = s2 <;> by_cases h3 : r3 = s3 <;> by_cases h4 : r4 = s4 <;> by_cases h5 : r5 = s5 <;> by_cases h6 : r6 = s6 <;> by_cases h7 : r7 = s7 <;> by_cases h8 : r8 = s8 <;> by_cases h9 : r9 = s9 <;> simp [h1, h2, h3, h4, h5, h6, h7, h8, h9]
end Go.Proofs.YtbamklefagghcaaGreatDoor

namespace Go.Proofs.YtbamklefagghcaaGreatDoor
open Go.RowKit Go.PK
set_option linter.unusedVariables false
set_option linter.unusedSimpArgs false
set_option maxRecDepth 100000 in
theorem c_Total {v : Value} {ls : List PK.Ord} {D : Nat → Prop} (w : World) (hls : sliceRd tyOrd D w v ls) (hw : ∀ o ∈ ls, wrO (pf o)) (hn : ls.length ≤ 1000) :
    Calls Tryz.prog 19 #[v] w fun e w' => e = .returned (.int .i64 (totalP ls)) ∧ Later w w' := by
  obtain ⟨A, cp, rfl, hlc, hmx, _⟩ := id hls
  refine enter (vs := [Value.slice A ls.length cp]) Tryz.func19 rfl Tryz.ntmps19 rfl ?_
  refine w_seq ?_
  refine rg_text ?_
  refine x_val rfl rfl rfl (v_assign rfl) ?_
  refine x_end ?_
  refine t_norm ?_
  refine w_seq ?_
  refine rg_text ?_
  refine x_val rfl rfl rfl (v_assign rfl) ?_
  refine x_end ?_
  refine t_norm ?_
  refine w_seq ?_
  refine w_seq ?_
  refine rg_text ?_
  refine x_val rfl rfl rfl (v_assign rfl) ?_
  refine x_end ?_
  refine t_norm ?_
  refine w_block ?_
  refine w_loop (σ := Nat) (fun k => k ≤ ls.length) (fun k => [(0, Value.slice A ls.length cp), (3, Value.int .i64 (totalP (ls.take k))), (4, Value.int .i64 (k : Nat))]) (fun k => []) (fun k => [(w, fun _ => True)]) (fun k => ls.length - k) (0) (Nat.zero_le _) (l_start (by repeat (first | exact Sub.nil | refine Sub.cons rfl ?_)) (fun _ h => h)) ?_
  rintro k hk
  refine w_state ([(0, Value.slice A ls.length cp), (3, Value.int .i64 (totalP (ls.take k))), (4, Value.int .i64 (k : Nat))]) ([]) ([(w, fun _ => True)]) ?_
  refine w_seq ?_
  refine w_seq ?_
  refine rg_text ?_
  refine x_val rfl rfl rfl (v_move rfl) ?_
  refine x_val rfl rfl rfl (v_move rfl) ?_
  refine x_val rfl rfl rfl (v_len_slice Tryz.underlying28 rfl) ?_
  refine x_bool rfl rfl rfl (v_lss rfl rfl) ?_
  intro b8 hb8
  refine x_end ?_
  refine t_norm ?_
  refine w_cond rfl (fun hc8 => ?_) (fun hc8 => ?_)
  · simp only [hb8, decide_eq_true_eq, decide_eq_false_iff_not, Bool.and_eq_true, Bool.or_eq_true, Bool.and_eq_false_iff, Bool.or_eq_false_iff, Bool.not_eq_true', Bool.not_eq_false', ne_eq, Decidable.not_not] at hc8
    have hkl : k < ls.length := by omega
    obtain ⟨ob, oo, hA, _, hc, hoA⟩ := ord_at hls hkl
    obtain ⟨g1, g2, _⟩ := line_rng (hw ls[k] (List.getElem_mem hkl))
    obtain ⟨t1, t2⟩ := total_take hw k
    obtain ⟨ox, hox⟩ : ∃ x, ls[k] = x := ⟨_, rfl⟩
    have hst : totalP (ls.take (k + 1)) = totalP (ls.take k) + ox.copies * ox.price := by rw [take_snoc hkl, totalP_snoc, hox]
    rw [hox] at g1 g2 hc
    refine w_skip ?_
    refine t_norm ?_
    refine w_seq ?_
    refine w_block ?_
    refine rg_draw 14 [(true, 0), (true, 1), (true, 2), (true, 3), (true, 4), (true, 5), (true, 6), (true, 7), (true, 8), (true, 9), (true, 10), (true, 11), (true, 12), (true, 13)] (by kernel_rfl) (by kernel_rfl) ?_
    refine x_val rfl rfl rfl (v_move rfl) ?_
    refine x_val rfl rfl rfl (v_move rfl) ?_
    refine x_val rfl rfl rfl (v_move rfl) ?_
    refine x_val rfl rfl rfl (v_indexAddr Tryz.underlying28 sz25 (congrArg (fun A => some (Value.slice A ls.length cp)) hA) rfl (hkl) rfl) ?_
    refine x_val rfl rfl rfl (v_fieldAddr Tryz.underlying25 rfl sz3 (by decide) rfl rfl) ?_
    refine x_val rfl rfl rfl (v_load Tryz.underlying3 rfl rfl (at_ro (.head _) trivial (hc 4 (by decide)))) ?_
    refine x_val rfl rfl rfl (v_move rfl) ?_
    refine x_val rfl rfl rfl (v_move rfl) ?_
    refine x_val rfl rfl rfl (v_indexAddr Tryz.underlying28 sz25 (congrArg (fun A => some (Value.slice A ls.length cp)) hA) rfl (hkl) rfl) ?_
    refine x_val rfl rfl rfl (v_fieldAddr Tryz.underlying25 rfl sz3 (by decide) rfl rfl) ?_
    refine x_val rfl rfl rfl (v_load Tryz.underlying3 rfl rfl (at_ro (.head _) trivial (hc 5 (by decide)))) ?_
    refine x_val rfl rfl rfl (v_muli rfl rfl rfl (by omega)) ?_
    refine x_val rfl rfl rfl (v_addi (c := totalP (ls.take (k + 1))) rfl rfl hst.symm (by rw [hst]; omega)) ?_
    refine x_val rfl rfl rfl (v_assign rfl) ?_
    refine x_end ?_
    refine b_norm ?_
    refine t_norm ?_
    refine rg_text ?_
    refine x_val rfl rfl rfl (v_move rfl) ?_
    refine x_val rfl rfl rfl (v_addi rfl rfl rfl (by first | omega | (dsimp only; omega))) ?_
    refine x_val rfl rfl rfl (v_assign rfl) ?_
    refine x_end ?_
    exact l_norm (k + 1) (show k + 1 ≤ ls.length by omega) (by omega) (by repeat (first | exact Sub.nil | refine Sub.cons rfl ?_)) (fun _ h => h)
  · simp only [hb8, decide_eq_true_eq, decide_eq_false_iff_not, Bool.and_eq_true, Bool.or_eq_true, Bool.and_eq_false_iff, Bool.or_eq_false_iff, Bool.not_eq_true', Bool.not_eq_false', ne_eq, Decidable.not_not] at hc8
    obtain rfl : k = ls.length := by omega
    refine w_exit ?_
    refine t_exit ?_
    refine t_exit ?_
    refine b_hit ?_
    refine t_norm ?_
    refine w_seq ?_
    refine rg_text ?_
    refine x_val rfl rfl rfl (v_move rfl) ?_
    refine x_val rfl rfl rfl (v_assign rfl) ?_
    refine x_end ?_
    refine t_norm ?_
    refine w_ret ?_
    refine ret1 rfl rfl (fun w' hm => ⟨?_, hm.base (by simp)⟩)
    rw [List.take_length]
set_option maxRecDepth 100000 in
theorem c_Payable {v : Value} {ls : List PK.Ord} {D : Nat → Prop} (w : World) (hls : sliceRd tyOrd D w v ls)  :
    Calls Tryz.prog 45 #[v] w fun e w' => e = .returned (.bool (decide (payP ls))) ∧ Later w w' := by
  obtain ⟨A, cp, rfl, hlc, hmx, _⟩ := id hls
  refine enter (vs := [Value.slice A ls.length cp]) Tryz.func45 rfl Tryz.ntmps45 rfl ?_
  refine w_seq ?_
  refine rg_text ?_
  refine x_val rfl rfl rfl (v_assign rfl) ?_
  refine x_end ?_
  refine t_norm ?_
  refine w_seq ?_
  refine w_seq ?_
  refine rg_text ?_
  refine x_val rfl rfl rfl (v_move rfl) ?_
  refine x_val rfl rfl rfl (v_len_slice Tryz.underlying28 rfl) ?_
  refine x_bool rfl rfl rfl (v_lss rfl rfl) ?_
  intro b8 hb8
  refine x_val rfl rfl rfl (v_move rfl) ?_
  refine x_if [] rfl rfl rfl rfl rfl (fun hg => by obtain ⟨hg0, _⟩ := hg; subst hg0; (try simp only [List.cons_append, List.nil_append, gvl_nil, gvl_t, gvl_f]); exact v_move rfl) ?_
  refine x_if [] rfl rfl rfl rfl rfl (fun hg => by obtain ⟨hg0, _⟩ := hg; subst hg0; (try simp only [List.cons_append, List.nil_append, gvl_nil, gvl_t, gvl_f]); exact v_len_slice Tryz.underlying28 rfl) ?_
  refine x_ifb [] rfl rfl rfl rfl rfl (fun hg => by obtain ⟨hg0, _⟩ := hg; subst hg0; (try simp only [List.cons_append, List.nil_append, gvl_nil, gvl_t, gvl_f]); exact v_gtr rfl rfl) ?_
  intro b12 hb12
  refine x_bool rfl rfl rfl (v_or rfl rfl) ?_
  intro b13 hb13
  refine x_end ?_
  refine t_norm ?_
  refine w_cond rfl (fun hc13 => ?_) (fun hc13 => ?_)
  · have hno : ¬payP ls := fun ⟨q1, q2, _⟩ => by
      simp only [hb13, hb12, hb8, Bool.or_eq_true, decide_eq_true_eq] at hc13
      omega
    refine w_seq ?_
    refine rg_text ?_
    refine x_val rfl rfl rfl (v_assign rfl) ?_
    refine x_end ?_
    refine t_norm ?_
    refine w_ret ?_
    refine t_ret ?_
    refine ret1 rfl rfl (fun w' hm => ⟨?_, hm.base (by simp)⟩)
    rw [decide_eq_false hno]
  · have hlen : 1 ≤ ls.length ∧ ls.length ≤ 999 := by
      simp only [hb13, hb12, hb8, Bool.or_eq_false_iff, decide_eq_false_iff_not] at hc13
      omega
    refine w_skip ?_
    refine t_norm ?_
    refine w_seq ?_
    refine w_seq ?_
    refine rg_text ?_
    refine x_val rfl rfl rfl (v_assign rfl) ?_
    refine x_end ?_
    refine t_norm ?_
    refine w_block ?_
    refine w_loop (σ := Nat) (fun k => k ≤ ls.length ∧ ∀ o ∈ ls.take k, wrO (pf o)) (fun k => [(0, Value.slice A ls.length cp), (3, Value.int .i64 (k : Nat))]) (fun k => []) (fun k => [(w, fun _ => True)]) (fun k => ls.length - k) (0) (⟨Nat.zero_le _, fun o ho => by simp at ho⟩) (l_start (by repeat (first | exact Sub.nil | refine Sub.cons rfl ?_)) (fun _ h => h)) ?_
    rintro k ⟨hk, hwr⟩
    refine w_state ([(0, Value.slice A ls.length cp), (3, Value.int .i64 (k : Nat))]) ([]) ([(w, fun _ => True)]) ?_
    refine w_seq ?_
    refine w_seq ?_
    refine rg_text ?_
    refine x_val rfl rfl rfl (v_move rfl) ?_
    refine x_val rfl rfl rfl (v_move rfl) ?_
    refine x_val rfl rfl rfl (v_len_slice Tryz.underlying28 rfl) ?_
    refine x_bool rfl rfl rfl (v_lss rfl rfl) ?_
    intro b17 hb17
    refine x_end ?_
    refine t_norm ?_
    refine w_cond rfl (fun hc17 => ?_) (fun hc17 => ?_)
    · simp only [hb17, decide_eq_true_eq, decide_eq_false_iff_not, Bool.and_eq_true, Bool.or_eq_true, Bool.and_eq_false_iff, Bool.or_eq_false_iff, Bool.not_eq_true', Bool.not_eq_false', ne_eq, Decidable.not_not] at hc17
      have hkl : k < ls.length := by omega
      obtain ⟨ob, oo, hA, _, hc, hoA⟩ := ord_at hls hkl
      refine w_skip ?_
      refine t_norm ?_
      refine w_seq ?_
      refine w_block ?_
      refine w_seq ?_
      refine rg_text ?_
      refine x_val rfl rfl rfl (v_move rfl) ?_
      refine x_val rfl rfl rfl (v_move rfl) ?_
      refine x_val rfl rfl rfl (v_indexAddr Tryz.underlying28 sz25 (congrArg (fun A => some (Value.slice A ls.length cp)) hA) rfl (hkl) rfl) ?_
      refine x_val rfl rfl rfl (v_loadN (vs := ls[k].cells) Tryz.underlying25 rfl sz25 rfl (fun j hj => at_ro (.head _) trivial (hc j hj))) ?_
      refine x_alloc rfl rfl rfl zr25 ?_
      intro p4
      refine x_store0 [] rfl rfl rfl rfl sz25 rfl rfl ?_
      refine x_end ?_
      refine t_norm ?_
      refine w_seq ?_
      refine rg_text ?_
      refine x_val rfl rfl rfl (v_fieldAddr (off' := 1) Tryz.underlying25 rfl sz3 (by decide) rfl rfl) ?_
      refine x_store [] rfl rfl rfl rfl sz3 rfl (by show 2 ≤ 9; decide) ?_
      refine x_end ?_
      refine t_norm ?_
      refine w_seq ?_
      refine w_state _ [(p4, Obj.cells (pf ls[k]).cells.toArray 25)] _ ?_
      refine rg_text ?_
      refine x_val rfl rfl rfl (v_load_blk (e := 25) (fz := (0, 0)) (cs := (pf ls[k]).cells.toArray) Tryz.underlying25 rfl rfl (.head _) sz25) ?_
      refine x_callb rfl rfl rfl Tryz.func34 (by kernel_rfl) rfl (fun w1 hw1 => c_rWritable (pf ls[k]) w1) ?_
      intro b26 hb26
      refine x_val rfl rfl rfl (v_assign rfl) ?_
      refine x_end ?_
      refine t_norm ?_
      refine w_seq ?_
      refine rg_text ?_
      refine x_val rfl rfl rfl (v_move rfl) ?_
      refine x_bool rfl rfl rfl (v_not rfl) ?_
      intro b28 hb28
      refine x_end ?_
      refine t_norm ?_
      refine w_cond rfl (fun hc28 => ?_) (fun hc28 => ?_)
      · have hno : ¬payP ls := fun ⟨_, _, q⟩ => by
          rw [hb28, hb26, (writB_iff _).2 (q ls[k] (List.getElem_mem hkl))] at hc28
          cases hc28
        refine w_seq ?_
        refine rg_text ?_
        refine x_val rfl rfl rfl (v_assign rfl) ?_
        refine x_end ?_
        refine t_norm ?_
        refine w_ret ?_
        refine b_ret ?_
        refine t_ret ?_
        refine t_ret ?_
        refine b_ret ?_
        refine t_ret ?_
        refine ret1 rfl rfl (fun w' hm => ⟨?_, hm.base (by simp)⟩)
        rw [decide_eq_false hno]
      · have hyes : wrO (pf ls[k]) := by
          rw [hb28, hb26] at hc28
          exact (writB_iff _).1 (by simpa using hc28)
        refine w_skip ?_
        refine b_norm ?_
        refine t_norm ?_
        refine rg_text ?_
        refine x_val rfl rfl rfl (v_move rfl) ?_
        refine x_val rfl rfl rfl (v_addi rfl rfl rfl (by first | omega | (dsimp only; omega))) ?_
        refine x_val rfl rfl rfl (v_assign rfl) ?_
        refine x_end ?_
        exact l_norm (k + 1) ⟨by omega, take_all_wr hkl hwr hyes⟩ (by omega) (by repeat (first | exact Sub.nil | refine Sub.cons rfl ?_)) (fun w1 h => h.less (List.nil_sublist _) (fun _ h => h))
    · simp only [hb17, decide_eq_true_eq, decide_eq_false_iff_not, Bool.and_eq_true, Bool.or_eq_true, Bool.and_eq_false_iff, Bool.or_eq_false_iff, Bool.not_eq_true', Bool.not_eq_false', ne_eq, Decidable.not_not] at hc17
      obtain rfl : k = ls.length := by omega
      rw [List.take_length] at hwr
      refine w_exit ?_
      refine t_exit ?_
      refine t_exit ?_
      refine b_hit ?_
      refine t_norm ?_
      refine w_seq ?_
      refine rg_text ?_
      refine x_val rfl rfl rfl (v_assign rfl) ?_
      refine x_end ?_
      refine t_norm ?_
      refine w_ret ?_
      refine ret1 rfl rfl (fun w' hm => ⟨?_, hm.base (by simp)⟩)
      rw [decide_eq_true (show payP ls from ⟨hlen.1, hlen.2, hwr⟩)]
set_option maxHeartbeats 2000000 in
set_option maxRecDepth 100000 in
theorem c_With {v : Value} {ls : List PK.Ord} {D : Nat → Prop} (w : World) (hls : sliceRd tyOrd D w v ls) (t : ByteArray) (hw : ∀ o ∈ ls, wrO (pf o)) (hn : ls.length ≤ 1000) (ht : okS t) :
    Calls Tryz.prog 20 #[v, .string t] w fun e w' => ∃ q, e = .returned q ∧ Later w w' ∧ sliceRd tySeg (fun b => w.heap.size ≤ b) w' q (withX ls t) := by
  obtain ⟨A, cp, rfl, hlc, hmx, _⟩ := id hls
  refine enter (vs := [Value.slice A ls.length cp, .string t]) Tryz.func20 rfl Tryz.ntmps20 rfl ?_
  refine w_seq ?_
  refine rg_text ?_
  refine x_val rfl rfl rfl (v_assign rfl) ?_
  refine x_end ?_
  refine t_norm ?_
  refine w_seq ?_
  refine rg_text ?_
  refine x_call (R := fun v wa wb => ∃ A c, v = .agg #[.string (⟨#[85, 78, 72]⟩), .slice A 2 c] ∧ sliceRd (tySlice tyStr) (fun b => wa.heap.size ≤ b) wb (.slice A 2 c) [[⟨#[49]⟩], [⟨#[73, 78, 86, 79, 73, 67]⟩, ⟨#[68]⟩, ⟨#[57, 54, 65]⟩, ⟨#[85, 78]⟩]]) rfl rfl rfl Tryz.func35 (by kernel_rfl) rfl (fun w1 hw1 => (c_header ⟨#[73, 78, 86, 79, 73, 67]⟩ w1 (okS_small (by decide))).mono fun e w2 ⟨u, h1, h2, h3⟩ => seg_out h1 h2 h3) ?_
  intro v8 wa8 wb8 hm8 hl8 hR8
  obtain ⟨A8, c8, rfl, hs8⟩ := hR8
  refine x_buildSliceL (cs := [Value.string (⟨#[51, 56, 48]⟩)]) rfl rfl rfl Tryz.underlying54 sz9 zr9 rfl rfl rfl ?_
  intro p9
  refine x_call (R := fun v wa wb => ∃ A c, v = .agg #[.string (⟨#[66, 71, 77]⟩), .slice A 1 c] ∧ sliceRd (tySlice tyStr) (fun b => wa.heap.size ≤ b) wb (.slice A 1 c) [[⟨#[51, 56, 48]⟩]]) rfl rfl rfl Tryz.func36 (by kernel_rfl) rfl (fun w1 hw1 => (c_one (es := [⟨#[51, 56, 48]⟩]) (D := fun _ => True) ⟨#[66, 71, 77]⟩ w1 (lits_own (T := tyStr) (D := fun _ => True) (e := 9) (b := p9) [[Value.string (⟨#[51, 56, 48]⟩)]] (xs := [⟨#[51, 56, 48]⟩]) hw1 (by repeat (first | exact List.Mem.head _ | apply List.Mem.tail)) rfl (by simp) trivial ⟨⟨rfl, (okS_small (by decide))⟩, trivial⟩) (by simp)).mono fun e w2 ⟨u, h1, h2, h3⟩ => seg_out h1 h2 h3) ?_
  intro v10 wa10 wb10 hm10 hl10 hR10
  obtain ⟨A10, c10, rfl, hs10⟩ := hR10
  refine x_buildSliceL (cs := ([[Value.string ⟨#[85, 78, 72]⟩, .slice A8 2 c8], [Value.string ⟨#[66, 71, 77]⟩, .slice A10 1 c10]] : List (List Value)).flatten) rfl rfl rfl Tryz.underlying29 sz49 zr49 rfl rfl rfl ?_
  intro p11
  refine x_val rfl rfl rfl (v_assign rfl) ?_
  refine x_end ?_
  refine t_norm ?_
  refine w_seq ?_
  refine w_seq ?_
  refine rg_text ?_
  refine x_val rfl rfl rfl (v_assign rfl) ?_
  refine x_end ?_
  refine t_norm ?_
  refine w_block ?_
  refine w_fix (rowO 49 (some (p11, ([[Value.string ⟨#[85, 78, 72]⟩, .slice A8 2 c8], [Value.string ⟨#[66, 71, 77]⟩, .slice A10 1 c10]] : List (List Value)).flatten, 2))) (List.Sublist.cons_cons _ (List.nil_sublist _)) (fun w0 hm0 => ?_)
  have hmB := hm0.less (own' := rowO 49 (some (p11, ([[Value.string ⟨#[85, 78, 72]⟩, .slice A8 2 c8], [Value.string ⟨#[66, 71, 77]⟩, .slice A10 1 c10]] : List (List Value)).flatten, 2))) (List.Sublist.cons_cons _ (List.nil_sublist _)) (fun _ h => h)
  have hT0 : RowT tySeg (newD w (rowO 49 (some (p11, ([[Value.string ⟨#[85, 78, 72]⟩, .slice A8 2 c8], [Value.string ⟨#[66, 71, 77]⟩, .slice A10 1 c10]] : List (List Value)).flatten, 2)))) w0 (some (p11, ([[Value.string ⟨#[85, 78, 72]⟩, .slice A8 2 c8], [Value.string ⟨#[66, 71, 77]⟩, .slice A10 1 c10]] : List (List Value)).flatten, 2)) (headX ++ linesX 0 (ls.take 0)) := snocM (T := tySeg) (xs := []) (css := []) (css' := [[Value.string ⟨#[85, 78, 72]⟩, .slice A8 2 c8], [Value.string ⟨#[66, 71, 77]⟩, .slice A10 1 c10]]) (m := 2) (n := 0) rfl rfl (fun j h => absurd h (Nat.not_lt_zero _)) (rowOK_lit rfl (by decide)) rfl (.cons (tySeg_mk (x := ⟨⟨#[85, 78, 72]⟩, [[⟨#[49]⟩], [⟨#[73, 78, 86, 79, 73, 67]⟩, ⟨#[68]⟩, ⟨#[57, 54, 65]⟩, ⟨#[85, 78]⟩]]⟩) rfl (show (3 : Nat) ≤ 9223372036854775807 by decide) (hs8.keep (Kept.made hmB (by first | repeat (first | exact List.Mem.head _ | apply List.Mem.tail) | simp) hm8 (hm8.base (by simp)).size))) (.cons (tySeg_mk (x := ⟨⟨#[66, 71, 77]⟩, [[⟨#[51, 56, 48]⟩]]⟩) rfl (show (3 : Nat) ≤ 9223372036854775807 by decide) (hs10.keep (Kept.made hmB (by first | repeat (first | exact List.Mem.head _ | apply List.Mem.tail) | simp) hm10 (hm10.base (by simp)).size))) .nil))
  refine w_loop (σ := Nat × RowS × World) (fun x => x.1 ≤ ls.length ∧ RowT tySeg (newD w (rowO 49 x.2.1)) x.2.2 x.2.1 (headX ++ linesX 0 (ls.take x.1))) (fun x => [(0, Value.slice A ls.length cp), (1, Value.string t), (5, rowV x.2.1 (2 + 4 * x.1)), (6, Value.int .i64 (x.1 : Nat))]) (fun x => rowO 49 x.2.1) (fun x => (x.2.2, notOwn (rowO 49 x.2.1)) :: [(w, fun _ => True)]) (fun x => ls.length - x.1) ((0, (some (p11, ([[Value.string ⟨#[85, 78, 72]⟩, .slice A8 2 c8], [Value.string ⟨#[66, 71, 77]⟩, .slice A10 1 c10]] : List (List Value)).flatten, 2)), w0)) (⟨Nat.zero_le _, hT0⟩) (l_start (by repeat (first | exact Sub.nil | refine Sub.cons rfl ?_)) (fun _ h => h.less (List.Sublist.refl _) (fun q hq => by simp at hq ⊢; rcases hq with h | h; (· exact .inl h); simp [h]))) ?_
  rintro ⟨k, R, ws⟩ ⟨hk, hT⟩
  refine w_state ([(0, Value.slice A ls.length cp), (1, Value.string t), (5, rowV R (2 + 4 * k)), (6, Value.int .i64 (k : Nat))]) (rowO 49 R) ((ws, notOwn (rowO 49 R)) :: [(w, fun _ => True)]) ?_
  dsimp only at hk hT
  have hln := hl_len hk
  refine w_seq ?_
  refine w_seq ?_
  refine rg_text ?_
  refine x_val rfl rfl rfl (v_move rfl) ?_
  refine x_val rfl rfl rfl (v_move rfl) ?_
  refine x_val rfl rfl rfl (v_len_slice Tryz.underlying28 rfl) ?_
  refine x_bool rfl rfl rfl (v_lss rfl rfl) ?_
  intro b15 hb15
  refine x_end ?_
  refine t_norm ?_
  refine w_cond rfl (fun hc15 => ?_) (fun hc15 => ?_)
  · simp only [hb15, decide_eq_true_eq, decide_eq_false_iff_not, Bool.and_eq_true, Bool.or_eq_true, Bool.and_eq_false_iff, Bool.or_eq_false_iff, Bool.not_eq_true', Bool.not_eq_false', ne_eq, Decidable.not_not] at hc15
    have hkl : k < ls.length := by omega
    obtain ⟨ob, oo, hA, _, hc, hoA⟩ := ord_at hls hkl
    obtain ⟨_, _, ⟨r1, r2⟩, ⟨r3, r4⟩, ⟨r5, r6⟩, ⟨r7, r8⟩, r9, r10⟩ := line_rng (hw ls[k] (List.getElem_mem hkl))
    obtain ⟨⟨i1, _, i3, i4, i5, i6⟩, _⟩ := id hoA
    refine w_skip ?_
    refine t_norm ?_
    refine w_seq ?_
    refine w_block ?_
    refine w_seq ?_
    refine rg_text ?_
    refine x_val rfl rfl rfl (v_move rfl) ?_
    refine x_val rfl rfl rfl (v_move rfl) ?_
    refine x_val rfl rfl rfl (v_indexAddr Tryz.underlying28 sz25 (congrArg (fun A => some (Value.slice A ls.length cp)) hA) rfl (hkl) rfl) ?_
    refine x_val rfl rfl rfl (v_loadN (vs := ls[k].cells) Tryz.underlying25 rfl sz25 rfl (fun j hj => at_ro (.tail _ (.head _)) trivial (hc j hj))) ?_
    refine x_alloc rfl rfl rfl zr25 ?_
    intro p7
    refine x_store0 [] rfl rfl rfl rfl sz25 rfl rfl ?_
    refine x_end ?_
    refine t_norm ?_
    refine rg_draw 19 [(true, 0), (true, 1), (true, 2), (true, 3), (true, 4), (true, 6), (true, 7), (true, 10), (true, 11), (true, 14), (true, 15), (false, 5), (true, 8), (false, 9), (true, 12), (false, 13), (true, 16), (false, 17), (false, 18)] (by kernel_rfl) (by kernel_rfl) ?_
    refine x_val rfl rfl rfl (v_move rfl) ?_
    refine x_val rfl rfl rfl (v_move rfl) ?_
    refine x_val rfl rfl rfl (v_addi (c := ((k + 1 : Nat) : Int)) rfl rfl (by omega) (by omega)) ?_
    refine x_val rfl rfl rfl (v_fieldAddr (off' := 2) Tryz.underlying25 rfl sz23 (by decide) rfl rfl) ?_
    refine x_val rfl rfl rfl (v_loadN (vs := [Value.int .i64 ls[k].src, .int .i64 ls[k].num]) Tryz.underlying23 rfl sz23 rfl (fun j hj => at_ownL (vs := ls[k].cells) (by repeat (first | exact List.Mem.head _ | apply List.Mem.tail)) (by match j, hj with | 0, _ => rfl | 1, _ => rfl))) ?_
    refine x_val rfl rfl rfl (v_fieldAddr (off' := 0) Tryz.underlying25 rfl sz3 (by decide) rfl rfl) ?_
    refine x_val rfl rfl rfl (v_load Tryz.underlying3 rfl rfl (by first | exact at_ownL (.head _) rfl | exact at_ownL (.tail _ (.head _)) rfl | exact at_ownL (.tail _ (.tail _ (.head _))) rfl | (apply at_ownL; ((repeat (first | exact List.Mem.head _ | apply List.Mem.tail | apply List.mem_append_right))); rfl) | (refine at_ro (by first | exact .head _ | exact .tail _ (.head _) | exact .tail _ (.tail _ (.head _)) | simp) ?_ (by assumption); trivial))) ?_
    refine x_val rfl rfl rfl (v_fieldAddr (off' := 4) Tryz.underlying25 rfl sz3 (by decide) rfl rfl) ?_
    refine x_val rfl rfl rfl (v_load Tryz.underlying3 rfl rfl (by first | exact at_ownL (.head _) rfl | exact at_ownL (.tail _ (.head _)) rfl | exact at_ownL (.tail _ (.tail _ (.head _))) rfl | (apply at_ownL; ((repeat (first | exact List.Mem.head _ | apply List.Mem.tail | apply List.mem_append_right))); rfl) | (refine at_ro (by first | exact .head _ | exact .tail _ (.head _) | exact .tail _ (.tail _ (.head _)) | simp) ?_ (by assumption); trivial))) ?_
    refine x_val rfl rfl rfl (v_fieldAddr (off' := 5) Tryz.underlying25 rfl sz3 (by decide) rfl rfl) ?_
    refine x_val rfl rfl rfl (v_load Tryz.underlying3 rfl rfl (by first | exact at_ownL (.head _) rfl | exact at_ownL (.tail _ (.head _)) rfl | exact at_ownL (.tail _ (.tail _ (.head _))) rfl | (apply at_ownL; ((repeat (first | exact List.Mem.head _ | apply List.Mem.tail | apply List.mem_append_right))); rfl) | (refine at_ro (by first | exact .head _ | exact .tail _ (.head _) | exact .tail _ (.tail _ (.head _)) | simp) ?_ (by assumption); trivial))) ?_
    refine x_call (R := fun v wa wb => ∃ A c, v = .agg #[.string (⟨#[76, 73, 78]⟩), .slice A 3 c] ∧ sliceRd (tySlice tyStr) (fun b => wa.heap.size ≤ b) wb (.slice A 3 c) [[itoaS ((k + 1 : Nat) : Int)], [⟨#[]⟩], [recT ls[k].src ls[k].num, ⟨#[83, 82, 86]⟩]]) rfl rfl rfl Tryz.func37 (by kernel_rfl) rfl (fun w1 hw1 => (c_line ((k + 1 : Nat) : Int) (ls[k].src, ls[k].num) w1 ⟨by omega, by unfold in64; omega⟩ ⟨r3, i3⟩ ⟨r5, i4⟩).mono fun e w2 ⟨u, h1, h2, h3⟩ => seg_out h1 h2 h3) ?_
    intro v27 wa27 wb27 hm27 hl27 hR27
    obtain ⟨A27, c27, rfl, hs27⟩ := hR27
    refine x_callv rfl rfl rfl Tryz.func21 (by kernel_rfl) rfl (fun w1 hw1 => c_Dec ls[k].id w1 r1 i1) ?_
    refine x_call (R := fun v wa wb => ∃ A c, v = .agg #[.string (⟨#[82, 70, 70]⟩), .slice A 1 c] ∧ sliceRd (tySlice tyStr) (fun b => wa.heap.size ≤ b) wb (.slice A 1 c) [[⟨#[79, 78]⟩, itoaS ls[k].id]]) rfl rfl rfl Tryz.func38 (by kernel_rfl) rfl (fun w1 hw1 => (c_pair ⟨#[82, 70, 70]⟩ ⟨#[79, 78]⟩ (itoaS ls[k].id) w1 (okS_small (by decide)) (itoa_ok i1)).mono fun e w2 ⟨u, h1, h2, h3⟩ => seg_out h1 h2 h3) ?_
    intro v31 wa31 wb31 hm31 hl31 hR31
    obtain ⟨A31, c31, rfl, hs31⟩ := hR31
    refine x_callv rfl rfl rfl Tryz.func21 (by kernel_rfl) rfl (fun w1 hw1 => c_Dec ls[k].copies w1 r7 i5) ?_
    refine x_call (R := fun v wa wb => ∃ A c, v = .agg #[.string (⟨#[81, 84, 89]⟩), .slice A 1 c] ∧ sliceRd (tySlice tyStr) (fun b => wa.heap.size ≤ b) wb (.slice A 1 c) [[⟨#[52, 55]⟩, itoaS ls[k].copies]]) rfl rfl rfl Tryz.func38 (by kernel_rfl) rfl (fun w1 hw1 => (c_pair ⟨#[81, 84, 89]⟩ ⟨#[52, 55]⟩ (itoaS ls[k].copies) w1 (okS_small (by decide)) (itoa_ok i5)).mono fun e w2 ⟨u, h1, h2, h3⟩ => seg_out h1 h2 h3) ?_
    intro v35 wa35 wb35 hm35 hl35 hR35
    obtain ⟨A35, c35, rfl, hs35⟩ := hR35
    refine x_callv rfl rfl rfl Tryz.func21 (by kernel_rfl) rfl (fun w1 hw1 => c_Dec ls[k].price w1 r9 i6) ?_
    refine x_call (R := fun v wa wb => ∃ A c, v = .agg #[.string (⟨#[80, 82, 73]⟩), .slice A 1 c] ∧ sliceRd (tySlice tyStr) (fun b => wa.heap.size ≤ b) wb (.slice A 1 c) [[⟨#[65, 65, 65]⟩, itoaS ls[k].price]]) rfl rfl rfl Tryz.func38 (by kernel_rfl) rfl (fun w1 hw1 => (c_pair ⟨#[80, 82, 73]⟩ ⟨#[65, 65, 65]⟩ (itoaS ls[k].price) w1 (okS_small (by decide)) (itoa_ok i6)).mono fun e w2 ⟨u, h1, h2, h3⟩ => seg_out h1 h2 h3) ?_
    intro v39 wa39 wb39 hm39 hl39 hR39
    obtain ⟨A39, c39, rfl, hs39⟩ := hR39
    refine x_buildSliceL (cs := ([[Value.string ⟨#[76, 73, 78]⟩, .slice A27 3 c27], [Value.string ⟨#[82, 70, 70]⟩, .slice A31 1 c31], [Value.string ⟨#[81, 84, 89]⟩, .slice A35 1 c35], [Value.string ⟨#[80, 82, 73]⟩, .slice A39 1 c39]] : List (List Value)).flatten) rfl rfl rfl Tryz.underlying29 sz49 zr49 rfl rfl rfl ?_
    intro p40
    obtain ⟨css, hcl, hrow, hrd⟩ := hT
    rw [hln] at hcl hrow
    refine x_append (e := 49) [(p40, Obj.cells ([[Value.string ⟨#[76, 73, 78]⟩, .slice A27 3 c27], [Value.string ⟨#[82, 70, 70]⟩, .slice A31 1 c31], [Value.string ⟨#[81, 84, 89]⟩, .slice A35 1 c35], [Value.string ⟨#[80, 82, 73]⟩, .slice A39 1 c39]] : List (List Value)).flatten.toArray 49), (p7, Obj.cells ls[k].cells.toArray 25)] (l2 := []) R (len := 2 + 4 * k) (xs := css.flatten) rfl rfl rfl rfl (by rw [List.append_nil]; rfl) hrow Tryz.underlying29 ap49 rfl rfl (m := 4) (news := ([[Value.string ⟨#[76, 73, 78]⟩, .slice A27 3 c27], [Value.string ⟨#[82, 70, 70]⟩, .slice A31 1 c31], [Value.string ⟨#[81, 84, 89]⟩, .slice A35 1 c35], [Value.string ⟨#[80, 82, 73]⟩, .slice A39 1 c39]] : List (List Value)).flatten) (fun i hi => at_ownL (vs := ([[Value.string ⟨#[76, 73, 78]⟩, .slice A27 3 c27], [Value.string ⟨#[82, 70, 70]⟩, .slice A31 1 c31], [Value.string ⟨#[81, 84, 89]⟩, .slice A35 1 c35], [Value.string ⟨#[80, 82, 73]⟩, .slice A39 1 c39]] : List (List Value)).flatten) (.head _) (by rw [Nat.zero_add]; exact List.getElem?_eq_getElem hi)) rfl (by simp only [maxLen]; omega) (by omega) ?_
    intro R' hR'
    refine x_val rfl rfl rfl (v_assign rfl) ?_
    refine x_end ?_
    refine b_norm ?_
    refine t_norm ?_
    refine rg_text ?_
    refine x_val rfl rfl rfl (v_move rfl) ?_
    refine x_val rfl rfl rfl (v_addi rfl rfl rfl (by first | omega | (dsimp only; omega))) ?_
    refine x_val rfl rfl rfl (v_assign rfl) ?_
    refine x_end ?_
    rw [List.append_nil]
    have hsub : (rowO 49 R').Sublist ([(p40, Obj.cells ([[Value.string ⟨#[76, 73, 78]⟩, .slice A27 3 c27], [Value.string ⟨#[82, 70, 70]⟩, .slice A31 1 c31], [Value.string ⟨#[81, 84, 89]⟩, .slice A35 1 c35], [Value.string ⟨#[80, 82, 73]⟩, .slice A39 1 c39]] : List (List Value)).flatten.toArray 49), (p7, Obj.cells ls[k].cells.toArray 25)] ++ rowO 49 R') := List.sublist_append_right _ _
    refine s_fix (rowO 49 R') hsub (fun w0 hm0 => ?_)
    have hmB := hm0.less hsub (fun _ h => h)
    have hT' := snocM (T := tySeg) (D := newD w (rowO 49 R')) (ws := w0) (ys := inv4 k ls[k]) hln hcl (fun j h1 h2 => tySeg.keep (hrd j h1 h2) (Kept.frz hm0 hsub (by simp))) hR' rfl (.cons (tySeg_mk (x := ⟨⟨#[76, 73, 78]⟩, [[itoaS ((k + 1 : Nat) : Int)], [⟨#[]⟩], [recT ls[k].src ls[k].num, ⟨#[83, 82, 86]⟩]]⟩) rfl (show (3 : Nat) ≤ 9223372036854775807 by decide) (hs27.keep (Kept.made hmB (by first | repeat (first | exact List.Mem.head _ | apply List.Mem.tail) | simp) hm27 (hm27.base (by simp)).size))) (.cons (tySeg_mk (x := ⟨⟨#[82, 70, 70]⟩, [[⟨#[79, 78]⟩, itoaS ls[k].id]]⟩) rfl (show (3 : Nat) ≤ 9223372036854775807 by decide) (hs31.keep (Kept.made hmB (by first | repeat (first | exact List.Mem.head _ | apply List.Mem.tail) | simp) hm31 (hm31.base (by simp)).size))) (.cons (tySeg_mk (x := ⟨⟨#[81, 84, 89]⟩, [[⟨#[52, 55]⟩, itoaS ls[k].copies]]⟩) rfl (show (3 : Nat) ≤ 9223372036854775807 by decide) (hs35.keep (Kept.made hmB (by first | repeat (first | exact List.Mem.head _ | apply List.Mem.tail) | simp) hm35 (hm35.base (by simp)).size))) (.cons (tySeg_mk (x := ⟨⟨#[80, 82, 73]⟩, [[⟨#[65, 65, 65]⟩, itoaS ls[k].price]]⟩) rfl (show (3 : Nat) ≤ 9223372036854775807 by decide) (hs39.keep (Kept.made hmB (by first | repeat (first | exact List.Mem.head _ | apply List.Mem.tail) | simp) hm39 (hm39.base (by simp)).size))) .nil))))
    exact l_norm (x := (k, R, ws)) (μ := fun q : Nat × RowS × World => ls.length - q.1) (k + 1, R', w0) ⟨by dsimp only; omega, by dsimp only; rw [linesX_take hkl]; exact hT'⟩ (by simp only; omega) (by dsimp only; rw [show 2 + 4 * (k + 1) = 2 + 4 * k + 4 by omega]; repeat (first | exact Sub.nil | refine Sub.cons rfl ?_)) (fun w1 h => h.less (List.Sublist.refl _) (fun q hq => by simp at hq ⊢; rcases hq with h | h; (· exact .inl h); simp [h]))
  · simp only [hb15, decide_eq_true_eq, decide_eq_false_iff_not, Bool.and_eq_true, Bool.or_eq_true, Bool.and_eq_false_iff, Bool.or_eq_false_iff, Bool.not_eq_true', Bool.not_eq_false', ne_eq, Decidable.not_not] at hc15
    obtain rfl : k = ls.length := by omega
    rw [List.take_length] at hT hln
    refine w_exit ?_
    refine t_exit ?_
    refine t_exit ?_
    refine b_hit ?_
    refine t_norm ?_
    refine w_seq ?_
    refine rg_text ?_
    refine x_val rfl rfl rfl (v_move rfl) ?_
    refine x_buildSliceL (cs := [Value.string (⟨#[83]⟩)]) rfl rfl rfl Tryz.underlying54 sz9 zr9 rfl rfl rfl ?_
    intro p43
    refine x_call (R := fun v wa wb => ∃ A c, v = .agg #[.string (⟨#[85, 78, 83]⟩), .slice A 1 c] ∧ sliceRd (tySlice tyStr) (fun b => wa.heap.size ≤ b) wb (.slice A 1 c) [[⟨#[83]⟩]]) rfl rfl rfl Tryz.func36 (by kernel_rfl) rfl (fun w1 hw1 => (c_one (es := [⟨#[83]⟩]) (D := fun _ => True) ⟨#[85, 78, 83]⟩ w1 (lits_own (T := tyStr) (D := fun _ => True) (e := 9) (b := p43) [[Value.string (⟨#[83]⟩)]] (xs := [⟨#[83]⟩]) hw1 (by repeat (first | exact List.Mem.head _ | apply List.Mem.tail)) rfl (by simp) trivial ⟨⟨rfl, (okS_small (by decide))⟩, trivial⟩) (by simp)).mono fun e w2 ⟨u, h1, h2, h3⟩ => seg_out h1 h2 h3) ?_
    intro v44 wa44 wb44 hm44 hl44 hR44
    obtain ⟨A44, c44, rfl, hs44⟩ := hR44
    refine x_val rfl rfl rfl (v_move rfl) ?_
    refine x_call (R := fun v wa wb => ∃ A c, v = .agg #[.string (⟨#[77, 79, 65]⟩), .slice A 1 c] ∧ sliceRd (tySlice tyStr) (fun b => wa.heap.size ≤ b) wb (.slice A 1 c) [[⟨#[56, 54]⟩, t]]) rfl rfl rfl Tryz.func38 (by kernel_rfl) rfl (fun w1 hw1 => (c_pair ⟨#[77, 79, 65]⟩ ⟨#[56, 54]⟩ t w1 (okS_small (by decide)) ht).mono fun e w2 ⟨u, h1, h2, h3⟩ => seg_out h1 h2 h3) ?_
    intro v46 wa46 wb46 hm46 hl46 hR46
    obtain ⟨A46, c46, rfl, hs46⟩ := hR46
    refine x_val rfl rfl rfl (v_move rfl) ?_
    refine x_val rfl rfl rfl (v_len_slice Tryz.underlying28 rfl) ?_
    refine x_val rfl rfl rfl (v_muli rfl rfl rfl (by omega)) ?_
    refine x_val rfl rfl rfl (v_addi (c := ((4 * ls.length + 5 : Nat) : Int)) rfl rfl (by omega) (by omega)) ?_
    refine x_callv rfl rfl rfl Tryz.func21 (by kernel_rfl) rfl (fun w1 hw1 => c_Dec ((4 * ls.length + 5 : Nat) : Int) w1 (by omega) (by unfold in64; omega)) ?_
    refine x_buildSliceL (cs := [Value.string (itoaS ((4 * ls.length + 5 : Nat) : Int)), Value.string (⟨#[49]⟩)]) rfl rfl rfl Tryz.underlying54 sz9 zr9 rfl rfl rfl ?_
    intro p52
    refine x_call (R := fun v wa wb => ∃ A c, v = .agg #[.string (⟨#[85, 78, 84]⟩), .slice A 2 c] ∧ sliceRd (tySlice tyStr) (fun b => wa.heap.size ≤ b) wb (.slice A 2 c) [[itoaS ((4 * ls.length + 5 : Nat) : Int)], [⟨#[49]⟩]]) rfl rfl rfl Tryz.func36 (by kernel_rfl) rfl (fun w1 hw1 => (c_one (es := [itoaS ((4 * ls.length + 5 : Nat) : Int), ⟨#[49]⟩]) (D := fun _ => True) ⟨#[85, 78, 84]⟩ w1 (lits_own (T := tyStr) (D := fun _ => True) (e := 9) (b := p52) [[Value.string (itoaS ((4 * ls.length + 5 : Nat) : Int))], [Value.string (⟨#[49]⟩)]] (xs := [itoaS ((4 * ls.length + 5 : Nat) : Int), ⟨#[49]⟩]) hw1 (by repeat (first | exact List.Mem.head _ | apply List.Mem.tail)) rfl (by simp) trivial ⟨⟨rfl, itoa_ok (by unfold in64; omega)⟩, ⟨rfl, (okS_small (by decide))⟩, trivial⟩) (by simp)).mono fun e w2 ⟨u, h1, h2, h3⟩ => seg_out h1 h2 h3) ?_
    intro v53 wa53 wb53 hm53 hl53 hR53
    obtain ⟨A53, c53, rfl, hs53⟩ := hR53
    refine x_buildSliceL (cs := ([[Value.string ⟨#[85, 78, 83]⟩, .slice A44 1 c44], [Value.string ⟨#[77, 79, 65]⟩, .slice A46 1 c46], [Value.string ⟨#[85, 78, 84]⟩, .slice A53 2 c53]] : List (List Value)).flatten) rfl rfl rfl Tryz.underlying29 sz49 zr49 rfl rfl rfl ?_
    intro p54
    obtain ⟨css, hcl, hrow, hrd⟩ := hT
    rw [hln] at hcl hrow
    refine x_append (e := 49) [(p54, _), (p52, _), (p43, _)] (l2 := []) R (len := 2 + 4 * ls.length) (xs := css.flatten) rfl rfl rfl rfl (by rw [List.append_nil]; rfl) hrow Tryz.underlying29 ap49 rfl rfl (m := 3) (news := ([[Value.string ⟨#[85, 78, 83]⟩, .slice A44 1 c44], [Value.string ⟨#[77, 79, 65]⟩, .slice A46 1 c46], [Value.string ⟨#[85, 78, 84]⟩, .slice A53 2 c53]] : List (List Value)).flatten) (fun i hi => at_ownL (vs := ([[Value.string ⟨#[85, 78, 83]⟩, .slice A44 1 c44], [Value.string ⟨#[77, 79, 65]⟩, .slice A46 1 c46], [Value.string ⟨#[85, 78, 84]⟩, .slice A53 2 c53]] : List (List Value)).flatten) (.head _) (by rw [Nat.zero_add]; exact List.getElem?_eq_getElem hi)) rfl (by simp only [maxLen]; omega) (by omega) ?_
    intro R' hR'
    refine x_val rfl rfl rfl (v_assign rfl) ?_
    refine x_end ?_
    refine t_norm ?_
    refine w_ret ?_
    rw [List.append_nil]
    refine ret1 rfl rfl (fun w' hm => ⟨_, rfl, hm.base (by simp), ?_⟩)
    have hsub := List.sublist_append_right ([(p54, Obj.cells ([[Value.string ⟨#[85, 78, 83]⟩, .slice A44 1 c44], [Value.string ⟨#[77, 79, 65]⟩, .slice A46 1 c46], [Value.string ⟨#[85, 78, 84]⟩, .slice A53 2 c53]] : List (List Value)).flatten.toArray 49), (p52, Obj.cells [Value.string (itoaS ((4 * ls.length + 5 : Nat) : Int)), Value.string (⟨#[49]⟩)].toArray 9), (p43, Obj.cells [Value.string (⟨#[83]⟩)].toArray 9)] : List (Nat × Obj)) (rowO 49 R')
    have hmB := hm.less hsub (fun _ h => h)
    have hT' := snocM (T := tySeg) (D := newD w (rowO 49 R')) (ws := w') (ys := tailX ls.length t) hln hcl (fun j h1 h2 => tySeg.keep (hrd j h1 h2) (Kept.frz hm hsub (by simp))) hR' rfl (.cons (tySeg_mk (x := ⟨⟨#[85, 78, 83]⟩, [[⟨#[83]⟩]]⟩) rfl (show (3 : Nat) ≤ 9223372036854775807 by decide) (hs44.keep (Kept.made hmB (by first | repeat (first | exact List.Mem.head _ | apply List.Mem.tail) | simp) hm44 (hm44.base (by simp)).size))) (.cons (tySeg_mk (x := ⟨⟨#[77, 79, 65]⟩, [[⟨#[56, 54]⟩, t]]⟩) rfl (show (3 : Nat) ≤ 9223372036854775807 by decide) (hs46.keep (Kept.made hmB (by first | repeat (first | exact List.Mem.head _ | apply List.Mem.tail) | simp) hm46 (hm46.base (by simp)).size))) (.cons (tySeg_mk (x := ⟨⟨#[85, 78, 84]⟩, [[itoaS ((4 * ls.length + 5 : Nat) : Int)], [⟨#[49]⟩]]⟩) rfl (show (3 : Nat) ≤ 9223372036854775807 by decide) (hs53.keep (Kept.made hmB (by first | repeat (first | exact List.Mem.head _ | apply List.Mem.tail) | simp) hm53 (hm53.base (by simp)).size))) .nil)))
    exact hT'.rd (e := 49) hmB (fun q hq => hq) (fun _ h => h.1) (fun q hq => hmB.newer (by simp) hq) (by rw [List.length_append, hln]; rfl)

end Go.Proofs.YtbamklefagghcaaGreatDoor

namespace Go.Proofs.YtbamklefagghcaaGreatDoor
open Go.RowKit Go.PK
set_option linter.unusedVariables false
set_option linter.unusedSimpArgs false
theorem ap25 : (Tryz.prog.info? 25).map (fun j => (j.zero, j.size, j.bytes)) = some (some (.agg #[.int .i64 0, .int .i64 0, .int .i64 0, .int .i64 0, .int .i64 0, .int .i64 0, .int .i64 0, .int .i64 0, .int .i64 0]), 9, 72) := by kernel_rfl

theorem lineE_okA (l : List Seg) (k : Nat) : (lineE l k).okA := by
  have z : in64 0 := by unfold in64; decide
  exact ⟨⟨readP_in _, z, readP_in _, readP_in _, readP_in _, readP_in _⟩, z, z, z⟩
set_option maxRecDepth 100000 in
theorem c_rInvoice {v : Value} {ls : List PK.Ord} {D : Nat → Prop} (w : World) (hls : sliceRd tyOrd D w v ls)  :
    Calls Tryz.prog 17 #[v] w fun e w' => ∃ q, e = .returned q ∧ Later w w' ∧ sliceRd tySeg (fun b => w.heap.size ≤ b) w' q (invR ls) := by
  obtain ⟨A, cp, rfl, hlc, hmx, _⟩ := id hls
  refine enter (vs := [Value.slice A ls.length cp]) Tryz.func17 rfl Tryz.ntmps17 rfl ?_
  refine w_seq ?_
  refine rg_text ?_
  refine x_val rfl rfl rfl (v_assign rfl) ?_
  refine x_end ?_
  refine t_norm ?_
  refine w_seq ?_
  refine rg_text ?_
  refine x_val rfl rfl rfl (v_move rfl) ?_
  refine x_callb rfl rfl rfl Tryz.func45 (by kernel_rfl) rfl (fun w1 hw1 => c_Payable w1 (hls.keep (Kept.later (hw1.base (by simp))))) ?_
  intro b5 hb5
  refine x_val rfl rfl rfl (v_assign rfl) ?_
  refine x_end ?_
  refine t_norm ?_
  refine w_seq ?_
  refine w_seq ?_
  refine rg_text ?_
  refine x_val rfl rfl rfl (v_move rfl) ?_
  refine x_bool rfl rfl rfl (v_not rfl) ?_
  intro b7 hb7
  refine x_end ?_
  refine t_norm ?_
  refine w_cond rfl (fun hc7 => ?_) (fun hc7 => ?_)
  · have hno : ¬payP ls := by rw [hb7, hb5] at hc7; simpa using hc7
    refine w_seq ?_
    refine rg_text ?_
    refine x_val rfl rfl rfl (v_assign rfl) ?_
    refine x_end ?_
    refine t_norm ?_
    refine w_ret ?_
    refine t_ret ?_
    refine ret1 rfl rfl (fun w' hm => ?_)
    unfold invR
    rw [if_neg hno]
    exact ⟨_, rfl, hm.base (by simp), sliceRd_nil⟩
  · have hyes : payP ls := by rw [hb7, hb5] at hc7; simpa using hc7
    obtain ⟨_, y2, y3⟩ := id hyes
    obtain ⟨t1, t2⟩ := total_le y3
    refine w_skip ?_
    refine t_norm ?_
    refine w_seq ?_
    refine rg_text ?_
    refine x_val rfl rfl rfl (v_move rfl) ?_
    refine x_val rfl rfl rfl (v_move rfl) ?_
    refine x_callv rfl rfl rfl Tryz.func19 (by kernel_rfl) rfl (fun w1 hw1 => c_Total w1 (hls.keep (Kept.later (hw1.base (by simp)))) y3 (by omega)) ?_
    refine x_callv rfl rfl rfl Tryz.func21 (by kernel_rfl) rfl (fun w1 hw1 => c_Dec (totalP ls) w1 t1 (by unfold in64; omega)) ?_
    refine x_call (R := fun v wa wb => sliceRd tySeg (fun b => wa.heap.size ≤ b) wb v (withX ls (itoaS (totalP ls)))) rfl rfl rfl Tryz.func20 (by kernel_rfl) rfl (fun w1 hw1 => (c_With w1 (hls.keep (Kept.later (hw1.base (by simp)))) (itoaS (totalP ls)) y3 (by omega) (itoa_ok (by unfold in64; omega))).mono fun e w2 ⟨v, h1, h2, h3⟩ => ⟨_, h1, h2, h3⟩) ?_
    intro v12 wa12 wb12 hm12 hl12 hR12
    refine x_val rfl rfl rfl (v_assign rfl) ?_
    refine x_end ?_
    refine t_norm ?_
    refine w_ret ?_
    refine ret1 rfl rfl (fun w' hm => ?_)
    unfold invR
    rw [if_pos hyes]
    exact ⟨_, rfl, hm.base (by simp), hR12.keep (Kept.made0 hm hm12 (by simp) (by simp))⟩
set_option maxRecDepth 100000 in
theorem c_Orders {u v : Value} {xs ys : List PK.Ord} {D1 D2 : Nat → Prop} (w : World) (hx : sliceRd tyOrd D1 w u xs) (hy : sliceRd tyOrd D2 w v ys) :
    Calls Tryz.prog 25 #[u, v] w fun e w' => e = .returned (.bool (decide (xs = ys))) ∧ Later w w' := by
  obtain ⟨xA, xc, rfl, _, hxm, _⟩ := id hx
  obtain ⟨yA, yc, rfl, _, hym, _⟩ := id hy
  refine enter (vs := [Value.slice xA xs.length xc, Value.slice yA ys.length yc]) Tryz.func25 rfl Tryz.ntmps25 rfl ?_
  refine w_seq ?_
  refine rg_text ?_
  refine x_val rfl rfl rfl (v_assign rfl) ?_
  refine x_end ?_
  refine t_norm ?_
  refine w_seq ?_
  refine w_seq ?_
  refine rg_text ?_
  refine x_val rfl rfl rfl (v_move rfl) ?_
  refine x_val rfl rfl rfl (v_len_slice Tryz.underlying28 rfl) ?_
  refine x_val rfl rfl rfl (v_move rfl) ?_
  refine x_val rfl rfl rfl (v_len_slice Tryz.underlying28 rfl) ?_
  refine x_bool rfl rfl rfl (v_neq rfl rfl) ?_
  intro b10 hb10
  refine x_end ?_
  refine t_norm ?_
  refine w_cond rfl (fun hc10 => ?_) (fun hc10 => ?_)
  · have hno : ¬xs = ys := fun h => by rw [hb10, h] at hc10; simp at hc10
    refine w_seq ?_
    refine rg_text ?_
    refine x_val rfl rfl rfl (v_assign rfl) ?_
    refine x_end ?_
    refine t_norm ?_
    refine w_ret ?_
    refine t_ret ?_
    refine ret1 rfl rfl (fun w' hm => ⟨?_, hm.base (by simp)⟩)
    rw [decide_eq_false hno]
  · have hlen : xs.length = ys.length := by rw [hb10] at hc10; simp at hc10; omega
    refine w_skip ?_
    refine t_norm ?_
    refine w_seq ?_
    refine w_seq ?_
    refine rg_text ?_
    refine x_val rfl rfl rfl (v_assign rfl) ?_
    refine x_end ?_
    refine t_norm ?_
    refine w_block ?_
    refine w_loop (σ := Nat) (fun k => k ≤ xs.length ∧ xs.take k = ys.take k) (fun k => [(0, Value.slice xA xs.length xc), (1, Value.slice yA ys.length yc), (5, Value.int .i64 (k : Nat))]) (fun k => []) (fun k => [(w, fun _ => True)]) (fun k => xs.length - k) (0) (⟨Nat.zero_le _, rfl⟩) (l_start (by repeat (first | exact Sub.nil | refine Sub.cons rfl ?_)) (fun _ h => h)) ?_
    rintro k ⟨hk, heq⟩
    refine w_state ([(0, Value.slice xA xs.length xc), (1, Value.slice yA ys.length yc), (5, Value.int .i64 (k : Nat))]) ([]) ([(w, fun _ => True)]) ?_
    refine w_seq ?_
    refine w_seq ?_
    refine rg_text ?_
    refine x_val rfl rfl rfl (v_move rfl) ?_
    refine x_val rfl rfl rfl (v_move rfl) ?_
    refine x_val rfl rfl rfl (v_len_slice Tryz.underlying28 rfl) ?_
    refine x_bool rfl rfl rfl (v_lss rfl rfl) ?_
    intro b14 hb14
    refine x_end ?_
    refine t_norm ?_
    refine w_cond rfl (fun hc14 => ?_) (fun hc14 => ?_)
    · simp only [hb14, decide_eq_true_eq, decide_eq_false_iff_not, Bool.and_eq_true, Bool.or_eq_true, Bool.and_eq_false_iff, Bool.or_eq_false_iff, Bool.not_eq_true', Bool.not_eq_false', ne_eq, Decidable.not_not] at hc14
      have hk1 : k < xs.length := by omega
      have hk2 : k < ys.length := by omega
      obtain ⟨xb, xo, hxA, _, hxc, _⟩ := ord_at hx hk1
      obtain ⟨yb, yo, hyA, _, hyc, _⟩ := ord_at hy hk2
      refine w_skip ?_
      refine t_norm ?_
      refine w_seq ?_
      refine w_block ?_
      refine w_seq ?_
      refine rg_draw 9 [(true, 0), (true, 1), (true, 2), (true, 3), (true, 4), (true, 5), (true, 6), (true, 7), (true, 8)] (by kernel_rfl) (by kernel_rfl) ?_
      refine x_val rfl rfl rfl (v_move rfl) ?_
      refine x_val rfl rfl rfl (v_move rfl) ?_
      refine x_val rfl rfl rfl (v_indexAddr Tryz.underlying28 sz25 (congrArg (fun A => some (Value.slice A xs.length xc)) hxA) rfl (by first | omega | (dsimp only; omega)) rfl) ?_
      refine x_val rfl rfl rfl (v_loadN (vs := xs[k].cells) Tryz.underlying25 rfl sz25 rfl (fun j hj => at_ro (.head _) trivial (hxc j hj))) ?_
      refine x_val rfl rfl rfl (v_move rfl) ?_
      refine x_val rfl rfl rfl (v_move rfl) ?_
      refine x_val rfl rfl rfl (v_indexAddr Tryz.underlying28 sz25 (congrArg (fun A => some (Value.slice A ys.length yc)) hyA) rfl (by first | omega | (dsimp only; omega)) rfl) ?_
      refine x_val rfl rfl rfl (v_loadN (vs := ys[k].cells) Tryz.underlying25 rfl sz25 rfl (fun j hj => at_ro (.head _) trivial (hyc j hj))) ?_
      refine x_bool rfl rfl rfl (v_neA (by kernel_rfl) rfl rfl (fun w1 => eq25 w1 xs[k] ys[k])) ?_
      intro b25 hb25
      refine x_end ?_
      refine t_norm ?_
      refine w_cond rfl (fun hc25 => ?_) (fun hc25 => ?_)
      · have hno : ¬xs = ys := fun h => by
          subst h
          rw [hb25] at hc25; simp at hc25
        refine w_seq ?_
        refine rg_text ?_
        refine x_val rfl rfl rfl (v_assign rfl) ?_
        refine x_end ?_
        refine t_norm ?_
        refine w_ret ?_
        refine b_ret ?_
        refine t_ret ?_
        refine t_ret ?_
        refine b_ret ?_
        refine t_ret ?_
        refine ret1 rfl rfl (fun w' hm => ⟨?_, hm.base (by simp)⟩)
        rw [decide_eq_false hno]
      · have he : xs[k] = ys[k] := by rw [hb25] at hc25; simpa using hc25
        refine w_skip ?_
        refine b_norm ?_
        refine t_norm ?_
        refine rg_text ?_
        refine x_val rfl rfl rfl (v_move rfl) ?_
        refine x_val rfl rfl rfl (v_addi rfl rfl rfl (by first | omega | (dsimp only; omega))) ?_
        refine x_val rfl rfl rfl (v_assign rfl) ?_
        refine x_end ?_
        exact l_norm (k + 1) ⟨by omega, by rw [take_snoc hk1, take_snoc hk2, heq, he]⟩ (by omega) (by repeat (first | exact Sub.nil | refine Sub.cons rfl ?_)) (fun _ h => h)
    · simp only [hb14, decide_eq_true_eq, decide_eq_false_iff_not, Bool.and_eq_true, Bool.or_eq_true, Bool.and_eq_false_iff, Bool.or_eq_false_iff, Bool.not_eq_true', Bool.not_eq_false', ne_eq, Decidable.not_not] at hc14
      obtain rfl : k = xs.length := by omega
      rw [List.take_length, hlen, List.take_length] at heq
      refine w_exit ?_
      refine t_exit ?_
      refine t_exit ?_
      refine b_hit ?_
      refine t_norm ?_
      refine w_seq ?_
      refine rg_text ?_
      refine x_val rfl rfl rfl (v_assign rfl) ?_
      refine x_end ?_
      refine t_norm ?_
      refine w_ret ?_
      refine ret1 rfl rfl (fun w' hm => ⟨?_, hm.base (by simp)⟩)
      rw [decide_eq_true heq]
end Go.Proofs.YtbamklefagghcaaGreatDoor

namespace Go.Proofs.YtbamklefagghcaaGreatDoor
open Go.RowKit Go.PK
set_option linter.unusedVariables false
set_option linter.unusedSimpArgs false
set_option maxHeartbeats 2000000 in
set_option maxRecDepth 100000 in
theorem c_withTotal {v : Value} {ls : List PK.Ord} {D : Nat → Prop} (w : World) (hls : sliceRd tyOrd D w v ls) (n : Int) (hw : ∀ o ∈ ls, wrO (pf o)) (hn : ls.length ≤ 1000) (h0 : 0 ≤ n) (hi : in64 n) (hL : LD w) :
    Calls Tryz.prog 44 #[v, .string (itoaS n)] w fun e w' => ∃ q, e = .returned q ∧ Later w w' ∧ sliceRd tySeg (fun b => w.heap.size ≤ b) w' q (withX ls (itoaS n)) := by
  obtain ⟨A, cp, rfl, hlc, hmx, _⟩ := id hls
  refine enter (vs := [Value.slice A ls.length cp, .string (itoaS n)]) Tryz.func44 rfl Tryz.ntmps44 rfl ?_
  refine w_seq ?_
  refine rg_text ?_
  refine x_val rfl rfl rfl (v_assign rfl) ?_
  refine x_end ?_
  refine t_norm ?_
  refine w_seq ?_
  refine rg_text ?_
  refine x_buildSliceL (cs := [Value.string (⟨#[49]⟩), Value.string (⟨#[73, 78, 86, 79, 73, 67, 58, 68, 58, 57, 54, 65, 58, 85, 78]⟩)]) rfl rfl rfl Tryz.underlying54 sz9 zr9 rfl rfl rfl ?_
  intro p8
  refine x_call (R := fun v wa wb => ∃ A c, v = .agg #[.string ⟨#[85, 78, 72]⟩, .slice A 2 c] ∧ sliceRd (tySlice tyStr) (fun b => wa.heap.size ≤ b) wb (.slice A 2 c) [[⟨#[49]⟩], [⟨#[73, 78, 86, 79, 73, 67]⟩, ⟨#[68]⟩, ⟨#[57, 54, 65]⟩, ⟨#[85, 78]⟩]]) rfl rfl rfl Tryz.func31 (by kernel_rfl) rfl (fun w1 hw1 => (c_segment (es := [⟨#[49]⟩, ⟨#[73, 78, 86, 79, 73, 67, 58, 68, 58, 57, 54, 65, 58, 85, 78]⟩]) (D := fun _ => True) ⟨#[85, 78, 72]⟩ w1 (rowS_rd (e := 9) (r := some (p8, [Value.string (⟨#[49]⟩), Value.string (⟨#[73, 78, 86, 79, 73, 67, 58, 68, 58, 57, 54, 65, 58, 85, 78]⟩)], 2)) (n := 2) (rowOK_lit rfl (by decide)) rfl (fun s hs => ok_of (es_unh.2 s hs)) hw1 (fun q hq => by rw [List.mem_singleton.1 hq]; exact (by repeat (first | exact List.Mem.head _ | apply List.Mem.tail))) (fun _ _ => trivial)) (fun s hs => Nat.le_trans (es_unh.2 s hs) (by decide)) (by show 2 ≤ 1000; decide) (hL.later (hw1.base (by simp)))).mono fun e w2 ⟨u, h1, h2, h3⟩ => seg_out h1 h2 (es_unh.1 ▸ h3)) ?_
  intro v9 wa9 wb9 hm9 hl9 hR9
  obtain ⟨A9, c9, rfl, hs9⟩ := hR9
  refine x_buildSliceL (cs := [Value.string (⟨#[51, 56, 48]⟩)]) rfl rfl rfl Tryz.underlying54 sz9 zr9 rfl rfl rfl ?_
  intro p10
  refine x_call (R := fun v wa wb => ∃ A c, v = .agg #[.string ⟨#[66, 71, 77]⟩, .slice A 1 c] ∧ sliceRd (tySlice tyStr) (fun b => wa.heap.size ≤ b) wb (.slice A 1 c) [[⟨#[51, 56, 48]⟩]]) rfl rfl rfl Tryz.func31 (by kernel_rfl) rfl (fun w1 hw1 => (c_segment (es := [⟨#[51, 56, 48]⟩]) (D := fun _ => True) ⟨#[66, 71, 77]⟩ w1 (rowS_rd (e := 9) (r := some (p10, [Value.string (⟨#[51, 56, 48]⟩)], 1)) (n := 1) (rowOK_lit rfl (by decide)) rfl (fun s hs => ok_of (es_bgm.2 s hs)) hw1 (fun q hq => by rw [List.mem_singleton.1 hq]; exact (by repeat (first | exact List.Mem.head _ | apply List.Mem.tail))) (fun _ _ => trivial)) (fun s hs => Nat.le_trans (es_bgm.2 s hs) (by decide)) (by show 1 ≤ 1000; decide) (hL.later (hw1.base (by simp)))).mono fun e w2 ⟨u, h1, h2, h3⟩ => seg_out h1 h2 (es_bgm.1 ▸ h3)) ?_
  intro v11 wa11 wb11 hm11 hl11 hR11
  obtain ⟨A11, c11, rfl, hs11⟩ := hR11
  refine x_buildSliceL (cs := ([[Value.string ⟨#[85, 78, 72]⟩, .slice A9 2 c9], [Value.string ⟨#[66, 71, 77]⟩, .slice A11 1 c11]] : List (List Value)).flatten) rfl rfl rfl Tryz.underlying29 sz49 zr49 rfl rfl rfl ?_
  intro p12
  refine x_val rfl rfl rfl (v_assign rfl) ?_
  refine x_end ?_
  refine t_norm ?_
  refine w_seq ?_
  refine w_seq ?_
  refine rg_text ?_
  refine x_val rfl rfl rfl (v_move rfl) ?_
  refine x_val rfl rfl rfl (v_len_slice Tryz.underlying28 rfl) ?_
  refine x_val rfl rfl rfl (v_move rfl) ?_
  refine x_end ?_
  refine t_norm ?_
  refine w_block ?_
  refine w_fix (rowO 49 (some (p12, ([[Value.string ⟨#[85, 78, 72]⟩, .slice A9 2 c9], [Value.string ⟨#[66, 71, 77]⟩, .slice A11 1 c11]] : List (List Value)).flatten, 2))) (List.Sublist.cons_cons _ (List.nil_sublist _)) (fun w0 hm0 => ?_)
  have hmB := hm0.less (own' := rowO 49 (some (p12, ([[Value.string ⟨#[85, 78, 72]⟩, .slice A9 2 c9], [Value.string ⟨#[66, 71, 77]⟩, .slice A11 1 c11]] : List (List Value)).flatten, 2))) (List.Sublist.cons_cons _ (List.nil_sublist _)) (fun _ h => h)
  have hT0 : RowT tySeg (newD w (rowO 49 (some (p12, ([[Value.string ⟨#[85, 78, 72]⟩, .slice A9 2 c9], [Value.string ⟨#[66, 71, 77]⟩, .slice A11 1 c11]] : List (List Value)).flatten, 2)))) w0 (some (p12, ([[Value.string ⟨#[85, 78, 72]⟩, .slice A9 2 c9], [Value.string ⟨#[66, 71, 77]⟩, .slice A11 1 c11]] : List (List Value)).flatten, 2)) (headX ++ linesX 0 (ls.take 0)) := snocM (T := tySeg) (xs := []) (css := []) (css' := [[Value.string ⟨#[85, 78, 72]⟩, .slice A9 2 c9], [Value.string ⟨#[66, 71, 77]⟩, .slice A11 1 c11]]) (m := 2) (n := 0) rfl rfl (fun j h => absurd h (Nat.not_lt_zero _)) (rowOK_lit rfl (by decide)) rfl (.cons (tySeg_mk (x := ⟨⟨#[85, 78, 72]⟩, [[⟨#[49]⟩], [⟨#[73, 78, 86, 79, 73, 67]⟩, ⟨#[68]⟩, ⟨#[57, 54, 65]⟩, ⟨#[85, 78]⟩]]⟩) rfl (show (3 : Nat) ≤ 9223372036854775807 by decide) (hs9.keep (Kept.made hmB (by first | repeat (first | exact List.Mem.head _ | apply List.Mem.tail) | simp) hm9 (hm9.base (by simp)).size))) (.cons (tySeg_mk (x := ⟨⟨#[66, 71, 77]⟩, [[⟨#[51, 56, 48]⟩]]⟩) rfl (show (3 : Nat) ≤ 9223372036854775807 by decide) (hs11.keep (Kept.made hmB (by first | repeat (first | exact List.Mem.head _ | apply List.Mem.tail) | simp) hm11 (hm11.base (by simp)).size))) .nil))
  refine w_loop (σ := Nat × RowS × World) (fun x => x.1 ≤ ls.length ∧ RowT tySeg (newD w (rowO 49 x.2.1)) x.2.2 x.2.1 (headX ++ linesX 0 (ls.take x.1))) (fun x => [(1, Value.string (itoaS n)), (0, Value.slice A ls.length cp), (13, Value.slice A ls.length cp), (14, Value.int .i64 (ls.length : Nat)), (5, rowV x.2.1 (2 + 4 * x.1)), (15, Value.int .i64 (x.1 : Nat))]) (fun x => rowO 49 x.2.1) (fun x => (x.2.2, notOwn (rowO 49 x.2.1)) :: [(w, fun _ => True)]) (fun x => ls.length - x.1) ((0, (some (p12, ([[Value.string ⟨#[85, 78, 72]⟩, .slice A9 2 c9], [Value.string ⟨#[66, 71, 77]⟩, .slice A11 1 c11]] : List (List Value)).flatten, 2)), w0)) (⟨Nat.zero_le _, hT0⟩) (l_start (by repeat (first | exact Sub.nil | refine Sub.cons rfl ?_)) (fun _ h => h.less (List.Sublist.refl _) (fun q hq => by simp at hq ⊢; rcases hq with h | h; (· exact .inl h); simp [h]))) ?_
  rintro ⟨k, R, ws⟩ ⟨hk, hT⟩
  refine w_state ([(1, Value.string (itoaS n)), (0, Value.slice A ls.length cp), (13, Value.slice A ls.length cp), (14, Value.int .i64 (ls.length : Nat)), (5, rowV R (2 + 4 * k)), (15, Value.int .i64 (k : Nat))]) (rowO 49 R) ((ws, notOwn (rowO 49 R)) :: [(w, fun _ => True)]) ?_
  dsimp only at hk hT
  have hln := hl_len hk
  refine w_seq ?_
  refine rg_text ?_
  refine x_bool rfl rfl rfl (v_lss rfl rfl) ?_
  intro b16 hb16
  refine x_end ?_
  refine t_norm ?_
  refine w_seq ?_
  refine w_cond rfl (fun hc16 => ?_) (fun hc16 => ?_)
  · simp only [hb16, decide_eq_true_eq, decide_eq_false_iff_not, Bool.and_eq_true, Bool.or_eq_true, Bool.and_eq_false_iff, Bool.or_eq_false_iff, Bool.not_eq_true', Bool.not_eq_false', ne_eq, Decidable.not_not] at hc16
    have hkl : k < ls.length := by omega
    obtain ⟨ob, oo, hA, _, hc, hoA⟩ := ord_at hls hkl
    obtain ⟨_, _, ⟨r1, r2⟩, ⟨r3, r4⟩, ⟨r5, r6⟩, ⟨r7, r8⟩, r9, r10⟩ := line_rng (hw ls[k] (List.getElem_mem hkl))
    obtain ⟨⟨i1, _, i3, i4, i5, i6⟩, _⟩ := id hoA
    have ik : in64 ((k + 1 : Nat) : Int) := by unfold in64; omega
    have z1 := itoaS_size i1
    have z5 := itoaS_size i5
    have z6 := itoaS_size i6
    have q27 := es_lin (n := ((k + 1 : Nat) : Int)) (o := ls[k]) (by omega) ik r3 r5 i3 i4
    have q33 := es_p3 (a := 79) (b := 78) r1 i1 (by decide) (by decide)
    have q39 := es_p3 (a := 52) (b := 55) r7 i5 (by decide) (by decide)
    have q45 := es_p4 (a := 65) (b := 65) (d := 65) r9 i6 (by decide) (by decide) (by decide)
    refine w_skip ?_
    refine t_norm ?_
    refine w_seq ?_
    refine w_block ?_
    refine w_seq ?_
    refine rg_text ?_
    refine x_val rfl rfl rfl (v_move rfl) ?_
    refine x_val rfl rfl rfl (v_indexAddr Tryz.underlying28 sz25 (congrArg (fun A => some (Value.slice A ls.length cp)) hA) rfl (hkl) rfl) ?_
    refine x_val rfl rfl rfl (v_loadN (vs := ls[k].cells) Tryz.underlying25 rfl sz25 rfl (fun j hj => at_ro (.tail _ (.head _)) trivial (hc j hj))) ?_
    refine x_alloc rfl rfl rfl zr25 ?_
    intro p7
    refine x_val rfl rfl rfl (v_assign rfl) ?_
    refine x_store0 [] rfl rfl rfl rfl sz25 rfl rfl ?_
    refine x_end ?_
    refine t_norm ?_
    refine rg_draw 28 [(true, 0), (true, 1), (true, 2), (true, 3), (true, 4), (true, 5), (true, 6), (true, 9), (true, 10), (true, 15), (true, 16), (true, 21), (true, 22), (false, 7), (false, 8), (true, 11), (true, 12), (false, 13), (false, 14), (true, 17), (true, 18), (false, 19), (false, 20), (true, 23), (true, 24), (false, 25), (false, 26), (false, 27)] (by kernel_rfl) (by kernel_rfl) ?_
    refine x_val rfl rfl rfl (v_move rfl) ?_
    refine x_val rfl rfl rfl (v_move rfl) ?_
    refine x_val rfl rfl rfl (v_addi (c := ((k + 1 : Nat) : Int)) rfl rfl (by omega) (by omega)) ?_
    refine x_callv rfl rfl rfl Tryz.func32 (by kernel_rfl) rfl (fun w1 hw1 => c_number ((k + 1 : Nat) : Int) w1 ik (hL.later (hw1.base (by simp)))) ?_
    refine x_val rfl rfl rfl (v_fieldAddr (off' := 2) Tryz.underlying25 rfl sz23 (by decide) rfl rfl) ?_
    refine x_val rfl rfl rfl (v_loadN (vs := [Value.int .i64 ls[k].src, .int .i64 ls[k].num]) Tryz.underlying23 rfl sz23 rfl (fun j hj => at_ownL (vs := ls[k].cells) (by repeat (first | exact List.Mem.head _ | apply List.Mem.tail)) (by match j, hj with | 0, _ => rfl | 1, _ => rfl))) ?_
    refine x_callv rfl rfl rfl Tryz.func33 (by kernel_rfl) rfl (fun w1 hw1 => c_article ls[k].src ls[k].num w1 i3 i4 (hL.later (hw1.base (by simp)))) ?_
    refine x_val rfl rfl rfl (v_fieldAddr (off' := 0) Tryz.underlying25 rfl sz3 (by decide) rfl rfl) ?_
    refine x_val rfl rfl rfl (v_load Tryz.underlying3 rfl rfl (at_ownL (vs := ls[k].cells) (by repeat (first | exact List.Mem.head _ | apply List.Mem.tail)) rfl)) ?_
    refine x_val rfl rfl rfl (v_fieldAddr (off' := 4) Tryz.underlying25 rfl sz3 (by decide) rfl rfl) ?_
    refine x_val rfl rfl rfl (v_load Tryz.underlying3 rfl rfl (at_ownL (vs := ls[k].cells) (by repeat (first | exact List.Mem.head _ | apply List.Mem.tail)) rfl)) ?_
    refine x_val rfl rfl rfl (v_fieldAddr (off' := 5) Tryz.underlying25 rfl sz3 (by decide) rfl rfl) ?_
    refine x_val rfl rfl rfl (v_load Tryz.underlying3 rfl rfl (at_ownL (vs := ls[k].cells) (by repeat (first | exact List.Mem.head _ | apply List.Mem.tail)) rfl)) ?_
    refine x_buildSliceL (cs := [Value.string (itoaS ((k + 1 : Nat) : Int)), Value.string (⟨#[]⟩), Value.string (artS ls[k].src ls[k].num)]) rfl rfl rfl Tryz.underlying54 sz9 zr9 rfl rfl rfl ?_
    intro p27
    refine x_call (R := fun v wa wb => ∃ A c, v = .agg #[.string ⟨#[76, 73, 78]⟩, .slice A 3 c] ∧ sliceRd (tySlice tyStr) (fun b => wa.heap.size ≤ b) wb (.slice A 3 c) [[itoaS ((k + 1 : Nat) : Int)], [⟨#[]⟩], [recT ls[k].src ls[k].num, ⟨#[83, 82, 86]⟩]]) rfl rfl rfl Tryz.func31 (by kernel_rfl) rfl (fun w1 hw1 => (c_segment (es := [itoaS ((k + 1 : Nat) : Int), ⟨#[]⟩, artS ls[k].src ls[k].num]) (D := fun _ => True) ⟨#[76, 73, 78]⟩ w1 (rowS_rd (e := 9) (r := some (p27, [Value.string (itoaS ((k + 1 : Nat) : Int)), Value.string (⟨#[]⟩), Value.string (artS ls[k].src ls[k].num)], 3)) (n := 3) (rowOK_lit rfl (by decide)) rfl (fun s hs => ok_of (q27.2 s hs)) hw1 (fun q hq => by rw [List.mem_singleton.1 hq]; exact (by repeat (first | exact List.Mem.head _ | apply List.Mem.tail))) (fun _ _ => trivial)) (fun s hs => Nat.le_trans (q27.2 s hs) (by decide)) (by show 3 ≤ 1000; decide) (hL.later (hw1.base (by simp)))).mono fun e w2 ⟨u, h1, h2, h3⟩ => seg_out h1 h2 (q27.1 ▸ h3)) ?_
    intro v28 wa28 wb28 hm28 hl28 hR28
    obtain ⟨A28, c28, rfl, hs28⟩ := hR28
    refine x_callv rfl rfl rfl Tryz.func32 (by kernel_rfl) rfl (fun w1 hw1 => c_number ls[k].id w1 i1 (hL.later (hw1.base (by simp)))) ?_
    refine x_val rfl rfl rfl (v_sadd rfl rfl (by show 3 + (itoaS _).size ≤ _; omega)) ?_
    refine x_buildSliceL (cs := [Value.string ((⟨#[79, 78, 58]⟩ : ByteArray) ++ itoaS ls[k].id)]) rfl rfl rfl Tryz.underlying54 sz9 zr9 rfl rfl rfl ?_
    intro p33
    refine x_call (R := fun v wa wb => ∃ A c, v = .agg #[.string ⟨#[82, 70, 70]⟩, .slice A 1 c] ∧ sliceRd (tySlice tyStr) (fun b => wa.heap.size ≤ b) wb (.slice A 1 c) [[⟨#[79, 78]⟩, itoaS ls[k].id]]) rfl rfl rfl Tryz.func31 (by kernel_rfl) rfl (fun w1 hw1 => (c_segment (es := [(⟨#[79, 78, 58]⟩ : ByteArray) ++ itoaS ls[k].id]) (D := fun _ => True) ⟨#[82, 70, 70]⟩ w1 (rowS_rd (e := 9) (r := some (p33, [Value.string ((⟨#[79, 78, 58]⟩ : ByteArray) ++ itoaS ls[k].id)], 1)) (n := 1) (rowOK_lit rfl (by decide)) rfl (fun s hs => ok_of (q33.2 s hs)) hw1 (fun q hq => by rw [List.mem_singleton.1 hq]; exact (by repeat (first | exact List.Mem.head _ | apply List.Mem.tail))) (fun _ _ => trivial)) (fun s hs => Nat.le_trans (q33.2 s hs) (by decide)) (by show 1 ≤ 1000; decide) (hL.later (hw1.base (by simp)))).mono fun e w2 ⟨u, h1, h2, h3⟩ => seg_out h1 h2 (q33.1 ▸ h3)) ?_
    intro v34 wa34 wb34 hm34 hl34 hR34
    obtain ⟨A34, c34, rfl, hs34⟩ := hR34
    refine x_callv rfl rfl rfl Tryz.func32 (by kernel_rfl) rfl (fun w1 hw1 => c_number ls[k].copies w1 i5 (hL.later (hw1.base (by simp)))) ?_
    refine x_val rfl rfl rfl (v_sadd rfl rfl (by show 3 + (itoaS _).size ≤ _; omega)) ?_
    refine x_buildSliceL (cs := [Value.string ((⟨#[52, 55, 58]⟩ : ByteArray) ++ itoaS ls[k].copies)]) rfl rfl rfl Tryz.underlying54 sz9 zr9 rfl rfl rfl ?_
    intro p39
    refine x_call (R := fun v wa wb => ∃ A c, v = .agg #[.string ⟨#[81, 84, 89]⟩, .slice A 1 c] ∧ sliceRd (tySlice tyStr) (fun b => wa.heap.size ≤ b) wb (.slice A 1 c) [[⟨#[52, 55]⟩, itoaS ls[k].copies]]) rfl rfl rfl Tryz.func31 (by kernel_rfl) rfl (fun w1 hw1 => (c_segment (es := [(⟨#[52, 55, 58]⟩ : ByteArray) ++ itoaS ls[k].copies]) (D := fun _ => True) ⟨#[81, 84, 89]⟩ w1 (rowS_rd (e := 9) (r := some (p39, [Value.string ((⟨#[52, 55, 58]⟩ : ByteArray) ++ itoaS ls[k].copies)], 1)) (n := 1) (rowOK_lit rfl (by decide)) rfl (fun s hs => ok_of (q39.2 s hs)) hw1 (fun q hq => by rw [List.mem_singleton.1 hq]; exact (by repeat (first | exact List.Mem.head _ | apply List.Mem.tail))) (fun _ _ => trivial)) (fun s hs => Nat.le_trans (q39.2 s hs) (by decide)) (by show 1 ≤ 1000; decide) (hL.later (hw1.base (by simp)))).mono fun e w2 ⟨u, h1, h2, h3⟩ => seg_out h1 h2 (q39.1 ▸ h3)) ?_
    intro v40 wa40 wb40 hm40 hl40 hR40
    obtain ⟨A40, c40, rfl, hs40⟩ := hR40
    refine x_callv rfl rfl rfl Tryz.func32 (by kernel_rfl) rfl (fun w1 hw1 => c_number ls[k].price w1 i6 (hL.later (hw1.base (by simp)))) ?_
    refine x_val rfl rfl rfl (v_sadd rfl rfl (by show 4 + (itoaS _).size ≤ _; omega)) ?_
    refine x_buildSliceL (cs := [Value.string ((⟨#[65, 65, 65, 58]⟩ : ByteArray) ++ itoaS ls[k].price)]) rfl rfl rfl Tryz.underlying54 sz9 zr9 rfl rfl rfl ?_
    intro p45
    refine x_call (R := fun v wa wb => ∃ A c, v = .agg #[.string ⟨#[80, 82, 73]⟩, .slice A 1 c] ∧ sliceRd (tySlice tyStr) (fun b => wa.heap.size ≤ b) wb (.slice A 1 c) [[⟨#[65, 65, 65]⟩, itoaS ls[k].price]]) rfl rfl rfl Tryz.func31 (by kernel_rfl) rfl (fun w1 hw1 => (c_segment (es := [(⟨#[65, 65, 65, 58]⟩ : ByteArray) ++ itoaS ls[k].price]) (D := fun _ => True) ⟨#[80, 82, 73]⟩ w1 (rowS_rd (e := 9) (r := some (p45, [Value.string ((⟨#[65, 65, 65, 58]⟩ : ByteArray) ++ itoaS ls[k].price)], 1)) (n := 1) (rowOK_lit rfl (by decide)) rfl (fun s hs => ok_of (q45.2 s hs)) hw1 (fun q hq => by rw [List.mem_singleton.1 hq]; exact (by repeat (first | exact List.Mem.head _ | apply List.Mem.tail))) (fun _ _ => trivial)) (fun s hs => Nat.le_trans (q45.2 s hs) (by decide)) (by show 1 ≤ 1000; decide) (hL.later (hw1.base (by simp)))).mono fun e w2 ⟨u, h1, h2, h3⟩ => seg_out h1 h2 (q45.1 ▸ h3)) ?_
    intro v46 wa46 wb46 hm46 hl46 hR46
    obtain ⟨A46, c46, rfl, hs46⟩ := hR46
    refine x_buildSliceL (cs := ([[Value.string ⟨#[76, 73, 78]⟩, .slice A28 3 c28], [Value.string ⟨#[82, 70, 70]⟩, .slice A34 1 c34], [Value.string ⟨#[81, 84, 89]⟩, .slice A40 1 c40], [Value.string ⟨#[80, 82, 73]⟩, .slice A46 1 c46]] : List (List Value)).flatten) rfl rfl rfl Tryz.underlying29 sz49 zr49 rfl rfl rfl ?_
    intro p47
    obtain ⟨css, hcl, hrow, hrd⟩ := hT
    rw [hln] at hcl hrow
    refine x_append (e := 49) [(p47, Obj.cells ([[Value.string ⟨#[76, 73, 78]⟩, .slice A28 3 c28], [Value.string ⟨#[82, 70, 70]⟩, .slice A34 1 c34], [Value.string ⟨#[81, 84, 89]⟩, .slice A40 1 c40], [Value.string ⟨#[80, 82, 73]⟩, .slice A46 1 c46]] : List (List Value)).flatten.toArray 49), (p45, Obj.cells [Value.string ((⟨#[65, 65, 65, 58]⟩ : ByteArray) ++ itoaS ls[k].price)].toArray 9), (p39, Obj.cells [Value.string ((⟨#[52, 55, 58]⟩ : ByteArray) ++ itoaS ls[k].copies)].toArray 9), (p33, Obj.cells [Value.string ((⟨#[79, 78, 58]⟩ : ByteArray) ++ itoaS ls[k].id)].toArray 9), (p27, Obj.cells [Value.string (itoaS ((k + 1 : Nat) : Int)), Value.string (⟨#[]⟩), Value.string (artS ls[k].src ls[k].num)].toArray 9), (p7, Obj.cells ls[k].cells.toArray 25)] (l2 := []) R (len := 2 + 4 * k) (xs := css.flatten) rfl rfl rfl rfl (by rw [List.append_nil]; rfl) hrow Tryz.underlying29 ap49 rfl rfl (m := 4) (news := ([[Value.string ⟨#[76, 73, 78]⟩, .slice A28 3 c28], [Value.string ⟨#[82, 70, 70]⟩, .slice A34 1 c34], [Value.string ⟨#[81, 84, 89]⟩, .slice A40 1 c40], [Value.string ⟨#[80, 82, 73]⟩, .slice A46 1 c46]] : List (List Value)).flatten) (fun i hi => at_ownL (vs := ([[Value.string ⟨#[76, 73, 78]⟩, .slice A28 3 c28], [Value.string ⟨#[82, 70, 70]⟩, .slice A34 1 c34], [Value.string ⟨#[81, 84, 89]⟩, .slice A40 1 c40], [Value.string ⟨#[80, 82, 73]⟩, .slice A46 1 c46]] : List (List Value)).flatten) (.head _) (by rw [Nat.zero_add]; exact List.getElem?_eq_getElem hi)) rfl (by simp only [maxLen]; omega) (by omega) ?_
    intro R' hR'
    refine x_val rfl rfl rfl (v_assign rfl) ?_
    refine x_end ?_
    refine b_norm ?_
    refine t_norm ?_
    refine rg_text ?_
    refine x_val rfl rfl rfl (v_addi rfl rfl rfl (by first | omega | (dsimp only; omega))) ?_
    refine x_val rfl rfl rfl (v_move rfl) ?_
    refine x_end ?_
    rw [List.append_nil]
    have hsub : (rowO 49 R').Sublist ([(p47, Obj.cells ([[Value.string ⟨#[76, 73, 78]⟩, .slice A28 3 c28], [Value.string ⟨#[82, 70, 70]⟩, .slice A34 1 c34], [Value.string ⟨#[81, 84, 89]⟩, .slice A40 1 c40], [Value.string ⟨#[80, 82, 73]⟩, .slice A46 1 c46]] : List (List Value)).flatten.toArray 49), (p45, Obj.cells [Value.string ((⟨#[65, 65, 65, 58]⟩ : ByteArray) ++ itoaS ls[k].price)].toArray 9), (p39, Obj.cells [Value.string ((⟨#[52, 55, 58]⟩ : ByteArray) ++ itoaS ls[k].copies)].toArray 9), (p33, Obj.cells [Value.string ((⟨#[79, 78, 58]⟩ : ByteArray) ++ itoaS ls[k].id)].toArray 9), (p27, Obj.cells [Value.string (itoaS ((k + 1 : Nat) : Int)), Value.string (⟨#[]⟩), Value.string (artS ls[k].src ls[k].num)].toArray 9), (p7, Obj.cells ls[k].cells.toArray 25)] ++ rowO 49 R') := List.sublist_append_right _ _
    refine s_fix (rowO 49 R') hsub (fun w0 hm0 => ?_)
    have hmB := hm0.less hsub (fun _ h => h)
    have hT' := snocM (T := tySeg) (D := newD w (rowO 49 R')) (ws := w0) (ys := inv4 k ls[k]) hln hcl (fun j h1 h2 => tySeg.keep (hrd j h1 h2) (Kept.frz hm0 hsub (by simp))) hR' rfl (.cons (tySeg_mk (x := ⟨⟨#[76, 73, 78]⟩, [[itoaS ((k + 1 : Nat) : Int)], [⟨#[]⟩], [recT ls[k].src ls[k].num, ⟨#[83, 82, 86]⟩]]⟩) rfl (show (3 : Nat) ≤ 9223372036854775807 by decide) (hs28.keep (Kept.made hmB (by first | repeat (first | exact List.Mem.head _ | apply List.Mem.tail) | simp) hm28 (hm28.base (by simp)).size))) (.cons (tySeg_mk (x := ⟨⟨#[82, 70, 70]⟩, [[⟨#[79, 78]⟩, itoaS ls[k].id]]⟩) rfl (show (3 : Nat) ≤ 9223372036854775807 by decide) (hs34.keep (Kept.made hmB (by first | repeat (first | exact List.Mem.head _ | apply List.Mem.tail) | simp) hm34 (hm34.base (by simp)).size))) (.cons (tySeg_mk (x := ⟨⟨#[81, 84, 89]⟩, [[⟨#[52, 55]⟩, itoaS ls[k].copies]]⟩) rfl (show (3 : Nat) ≤ 9223372036854775807 by decide) (hs40.keep (Kept.made hmB (by first | repeat (first | exact List.Mem.head _ | apply List.Mem.tail) | simp) hm40 (hm40.base (by simp)).size))) (.cons (tySeg_mk (x := ⟨⟨#[80, 82, 73]⟩, [[⟨#[65, 65, 65]⟩, itoaS ls[k].price]]⟩) rfl (show (3 : Nat) ≤ 9223372036854775807 by decide) (hs46.keep (Kept.made hmB (by first | repeat (first | exact List.Mem.head _ | apply List.Mem.tail) | simp) hm46 (hm46.base (by simp)).size))) .nil))))
    exact l_norm (x := (k, R, ws)) (μ := fun q : Nat × RowS × World => ls.length - q.1) (k + 1, R', w0) ⟨by dsimp only; omega, by dsimp only; rw [linesX_take hkl]; exact hT'⟩ (by simp only; omega) (by dsimp only; rw [show 2 + 4 * (k + 1) = 2 + 4 * k + 4 by omega]; repeat (first | exact Sub.nil | refine Sub.cons rfl ?_)) (fun w1 h => h.less (List.Sublist.refl _) (fun q hq => by simp at hq ⊢; rcases hq with h | h; (· exact .inl h); simp [h]))
  · simp only [hb16, decide_eq_true_eq, decide_eq_false_iff_not, Bool.and_eq_true, Bool.or_eq_true, Bool.and_eq_false_iff, Bool.or_eq_false_iff, Bool.not_eq_true', Bool.not_eq_false', ne_eq, Decidable.not_not] at hc16
    obtain rfl : k = ls.length := by omega
    rw [List.take_length] at hT hln
    have q55 := es_p3 (a := 56) (b := 54) h0 hi (by decide) (by decide)
    have i61 : in64 ((4 * ls.length + 5 : Nat) : Int) := by unfold in64; omega
    have q61 := es_unt (n := ((4 * ls.length + 5 : Nat) : Int)) (by omega) i61
    refine w_exit ?_
    refine t_exit ?_
    refine t_exit ?_
    refine b_hit ?_
    refine t_norm ?_
    refine w_seq ?_
    refine rg_text ?_
    refine x_val rfl rfl rfl (v_move rfl) ?_
    refine x_buildSliceL (cs := [Value.string (⟨#[83]⟩)]) rfl rfl rfl Tryz.underlying54 sz9 zr9 rfl rfl rfl ?_
    intro p51
    refine x_call (R := fun v wa wb => ∃ A c, v = .agg #[.string ⟨#[85, 78, 83]⟩, .slice A 1 c] ∧ sliceRd (tySlice tyStr) (fun b => wa.heap.size ≤ b) wb (.slice A 1 c) [[⟨#[83]⟩]]) rfl rfl rfl Tryz.func31 (by kernel_rfl) rfl (fun w1 hw1 => (c_segment (es := [⟨#[83]⟩]) (D := fun _ => True) ⟨#[85, 78, 83]⟩ w1 (rowS_rd (e := 9) (r := some (p51, [Value.string (⟨#[83]⟩)], 1)) (n := 1) (rowOK_lit rfl (by decide)) rfl (fun s hs => ok_of (es_uns.2 s hs)) hw1 (fun q hq => by rw [List.mem_singleton.1 hq]; exact (by repeat (first | exact List.Mem.head _ | apply List.Mem.tail))) (fun _ _ => trivial)) (fun s hs => Nat.le_trans (es_uns.2 s hs) (by decide)) (by show 1 ≤ 1000; decide) (hL.later (hw1.base (by simp)))).mono fun e w2 ⟨u, h1, h2, h3⟩ => seg_out h1 h2 (es_uns.1 ▸ h3)) ?_
    intro v52 wa52 wb52 hm52 hl52 hR52
    obtain ⟨A52, c52, rfl, hs52⟩ := hR52
    refine x_val rfl rfl rfl (v_move rfl) ?_
    refine x_val rfl rfl rfl (v_sadd rfl rfl (by have := itoaS_size hi; show 3 + (itoaS _).size ≤ _; omega)) ?_
    refine x_buildSliceL (cs := [Value.string ((⟨#[56, 54, 58]⟩ : ByteArray) ++ itoaS n)]) rfl rfl rfl Tryz.underlying54 sz9 zr9 rfl rfl rfl ?_
    intro p55
    refine x_call (R := fun v wa wb => ∃ A c, v = .agg #[.string ⟨#[77, 79, 65]⟩, .slice A 1 c] ∧ sliceRd (tySlice tyStr) (fun b => wa.heap.size ≤ b) wb (.slice A 1 c) [[⟨#[56, 54]⟩, itoaS n]]) rfl rfl rfl Tryz.func31 (by kernel_rfl) rfl (fun w1 hw1 => (c_segment (es := [(⟨#[56, 54, 58]⟩ : ByteArray) ++ itoaS n]) (D := fun _ => True) ⟨#[77, 79, 65]⟩ w1 (rowS_rd (e := 9) (r := some (p55, [Value.string ((⟨#[56, 54, 58]⟩ : ByteArray) ++ itoaS n)], 1)) (n := 1) (rowOK_lit rfl (by decide)) rfl (fun s hs => ok_of (q55.2 s hs)) hw1 (fun q hq => by rw [List.mem_singleton.1 hq]; exact (by repeat (first | exact List.Mem.head _ | apply List.Mem.tail))) (fun _ _ => trivial)) (fun s hs => Nat.le_trans (q55.2 s hs) (by decide)) (by show 1 ≤ 1000; decide) (hL.later (hw1.base (by simp)))).mono fun e w2 ⟨u, h1, h2, h3⟩ => seg_out h1 h2 (q55.1 ▸ h3)) ?_
    intro v56 wa56 wb56 hm56 hl56 hR56
    obtain ⟨A56, c56, rfl, hs56⟩ := hR56
    refine x_val rfl rfl rfl (v_move rfl) ?_
    refine x_val rfl rfl rfl (v_len_slice Tryz.underlying29 rfl) ?_
    refine x_val rfl rfl rfl (v_addi (c := ((4 * ls.length + 5 : Nat) : Int)) rfl rfl (by omega) (by omega)) ?_
    refine x_callv rfl rfl rfl Tryz.func32 (by kernel_rfl) rfl (fun w1 hw1 => c_number ((4 * ls.length + 5 : Nat) : Int) w1 i61 (hL.later (hw1.base (by simp)))) ?_
    refine x_buildSliceL (cs := [Value.string (itoaS ((4 * ls.length + 5 : Nat) : Int)), Value.string (⟨#[49]⟩)]) rfl rfl rfl Tryz.underlying54 sz9 zr9 rfl rfl rfl ?_
    intro p61
    refine x_call (R := fun v wa wb => ∃ A c, v = .agg #[.string ⟨#[85, 78, 84]⟩, .slice A 2 c] ∧ sliceRd (tySlice tyStr) (fun b => wa.heap.size ≤ b) wb (.slice A 2 c) [[itoaS ((4 * ls.length + 5 : Nat) : Int)], [⟨#[49]⟩]]) rfl rfl rfl Tryz.func31 (by kernel_rfl) rfl (fun w1 hw1 => (c_segment (es := [itoaS ((4 * ls.length + 5 : Nat) : Int), ⟨#[49]⟩]) (D := fun _ => True) ⟨#[85, 78, 84]⟩ w1 (rowS_rd (e := 9) (r := some (p61, [Value.string (itoaS ((4 * ls.length + 5 : Nat) : Int)), Value.string (⟨#[49]⟩)], 2)) (n := 2) (rowOK_lit rfl (by decide)) rfl (fun s hs => ok_of (q61.2 s hs)) hw1 (fun q hq => by rw [List.mem_singleton.1 hq]; exact (by repeat (first | exact List.Mem.head _ | apply List.Mem.tail))) (fun _ _ => trivial)) (fun s hs => Nat.le_trans (q61.2 s hs) (by decide)) (by show 2 ≤ 1000; decide) (hL.later (hw1.base (by simp)))).mono fun e w2 ⟨u, h1, h2, h3⟩ => seg_out h1 h2 (q61.1 ▸ h3)) ?_
    intro v62 wa62 wb62 hm62 hl62 hR62
    obtain ⟨A62, c62, rfl, hs62⟩ := hR62
    refine x_buildSliceL (cs := ([[Value.string ⟨#[85, 78, 83]⟩, .slice A52 1 c52], [Value.string ⟨#[77, 79, 65]⟩, .slice A56 1 c56], [Value.string ⟨#[85, 78, 84]⟩, .slice A62 2 c62]] : List (List Value)).flatten) rfl rfl rfl Tryz.underlying29 sz49 zr49 rfl rfl rfl ?_
    intro p63
    obtain ⟨css, hcl, hrow, hrd⟩ := hT
    rw [hln] at hcl hrow
    refine x_append (e := 49) [(p63, Obj.cells ([[Value.string ⟨#[85, 78, 83]⟩, .slice A52 1 c52], [Value.string ⟨#[77, 79, 65]⟩, .slice A56 1 c56], [Value.string ⟨#[85, 78, 84]⟩, .slice A62 2 c62]] : List (List Value)).flatten.toArray 49), (p61, Obj.cells [Value.string (itoaS ((4 * ls.length + 5 : Nat) : Int)), Value.string (⟨#[49]⟩)].toArray 9), (p55, Obj.cells [Value.string ((⟨#[56, 54, 58]⟩ : ByteArray) ++ itoaS n)].toArray 9), (p51, Obj.cells [Value.string (⟨#[83]⟩)].toArray 9)] (l2 := []) R (len := 2 + 4 * ls.length) (xs := css.flatten) rfl rfl rfl rfl (by rw [List.append_nil]; rfl) hrow Tryz.underlying29 ap49 rfl rfl (m := 3) (news := ([[Value.string ⟨#[85, 78, 83]⟩, .slice A52 1 c52], [Value.string ⟨#[77, 79, 65]⟩, .slice A56 1 c56], [Value.string ⟨#[85, 78, 84]⟩, .slice A62 2 c62]] : List (List Value)).flatten) (fun i hi => at_ownL (vs := ([[Value.string ⟨#[85, 78, 83]⟩, .slice A52 1 c52], [Value.string ⟨#[77, 79, 65]⟩, .slice A56 1 c56], [Value.string ⟨#[85, 78, 84]⟩, .slice A62 2 c62]] : List (List Value)).flatten) (.head _) (by rw [Nat.zero_add]; exact List.getElem?_eq_getElem hi)) rfl (by simp only [maxLen]; omega) (by omega) ?_
    intro R' hR'
    refine x_val rfl rfl rfl (v_assign rfl) ?_
    refine x_end ?_
    refine t_norm ?_
    refine w_ret ?_
    rw [List.append_nil]
    refine ret1 rfl rfl (fun w' hm => ⟨_, rfl, hm.base (by simp), ?_⟩)
    have hsub := List.sublist_append_right ([(p63, Obj.cells ([[Value.string ⟨#[85, 78, 83]⟩, .slice A52 1 c52], [Value.string ⟨#[77, 79, 65]⟩, .slice A56 1 c56], [Value.string ⟨#[85, 78, 84]⟩, .slice A62 2 c62]] : List (List Value)).flatten.toArray 49), (p61, Obj.cells [Value.string (itoaS ((4 * ls.length + 5 : Nat) : Int)), Value.string (⟨#[49]⟩)].toArray 9), (p55, Obj.cells [Value.string ((⟨#[56, 54, 58]⟩ : ByteArray) ++ itoaS n)].toArray 9), (p51, Obj.cells [Value.string (⟨#[83]⟩)].toArray 9)] : List (Nat × Obj)) (rowO 49 R')
    have hmB := hm.less hsub (fun _ h => h)
    have hT' := snocM (T := tySeg) (D := newD w (rowO 49 R')) (ws := w') (ys := tailX ls.length (itoaS n)) hln hcl (fun j h1 h2 => tySeg.keep (hrd j h1 h2) (Kept.frz hm hsub (by simp))) hR' rfl (.cons (tySeg_mk (x := ⟨⟨#[85, 78, 83]⟩, [[⟨#[83]⟩]]⟩) rfl (show (3 : Nat) ≤ 9223372036854775807 by decide) (hs52.keep (Kept.made hmB (by first | repeat (first | exact List.Mem.head _ | apply List.Mem.tail) | simp) hm52 (hm52.base (by simp)).size))) (.cons (tySeg_mk (x := ⟨⟨#[77, 79, 65]⟩, [[⟨#[56, 54]⟩, itoaS n]]⟩) rfl (show (3 : Nat) ≤ 9223372036854775807 by decide) (hs56.keep (Kept.made hmB (by first | repeat (first | exact List.Mem.head _ | apply List.Mem.tail) | simp) hm56 (hm56.base (by simp)).size))) (.cons (tySeg_mk (x := ⟨⟨#[85, 78, 84]⟩, [[itoaS ((4 * ls.length + 5 : Nat) : Int)], [⟨#[49]⟩]]⟩) rfl (show (3 : Nat) ≤ 9223372036854775807 by decide) (hs62.keep (Kept.made hmB (by first | repeat (first | exact List.Mem.head _ | apply List.Mem.tail) | simp) hm62 (hm62.base (by simp)).size))) .nil)))
    exact hT'.rd (e := 49) hmB (fun q hq => hq) (fun _ h => h.1) (fun q hq => hmB.newer (by simp) hq) (by rw [List.length_append, hln]; rfl)
theorem c_withTotalT {v : Value} {ls : List PK.Ord} {D : Nat → Prop} (w : World) (hls : sliceRd tyOrd D w v ls) (n : Int) {t : ByteArray} (hw : ∀ o ∈ ls, wrO (pf o)) (hn : ls.length ≤ 1000) (h0 : 0 ≤ n) (hi : in64 n) (hL : LD w) (ht : itoaS n = t) : Calls Tryz.prog 44 #[v, .string t] w fun e w' => ∃ q, e = .returned q ∧ Later w w' ∧ sliceRd tySeg (fun b => w.heap.size ≤ b) w' q (withX ls t) := by
  subst ht; exact c_withTotal w hls n hw hn h0 hi hL
set_option maxRecDepth 100000 in
theorem c_Invoice {v : Value} {ls : List PK.Ord} {D : Nat → Prop} (w : World) (hls : sliceRd tyOrd D w v ls) (hL : LD w) :
    Calls Tryz.prog 16 #[v] w fun e w' => ∃ q, e = .returned q ∧ Later w w' ∧ sliceRd tySeg (fun b => w.heap.size ≤ b) w' q (invR ls) ∧ ((invR ls).length = 0 → q = .slice none 0 0) := by
  obtain ⟨A, cp, rfl, hlc, hmx, _⟩ := id hls
  have ilen : in64 ((ls.length : Nat) : Int) := by unfold in64; omega
  refine enter (vs := [Value.slice A ls.length cp]) Tryz.func16 rfl Tryz.ntmps16 rfl ?_
  refine w_seq ?_
  refine rg_text ?_
  refine x_val rfl rfl rfl (v_assign rfl) ?_
  refine x_end ?_
  refine t_norm ?_
  refine w_seq ?_
  refine w_seq ?_
  refine rg_text ?_
  refine x_val rfl rfl rfl (v_move rfl) ?_
  refine x_val rfl rfl rfl (v_len_slice Tryz.underlying28 rfl) ?_
  refine x_buildSliceL (cs := [Value.int .i64 ((ls.length : Nat) : Int)]) rfl rfl rfl Tryz.underlying113 sz3 zr3 rfl rfl rfl ?_
  intro p8
  refine x_callb rfl rfl rfl Tryz.func43 (by kernel_rfl) rfl (fun w1 hw1 => c_within 1 999 w1 (rowI_rd (D := fun _ => True) (e := 3) (r := some (p8, [Value.int .i64 ((ls.length : Nat) : Int)], 1)) (n := 1) (ds := [((ls.length : Nat) : Int)]) (rowOK_lit rfl (by decide)) rfl (by simpa using ilen) hw1 (fun q hq => by rw [List.mem_singleton.1 hq]; exact .head _) (fun _ _ => trivial))) ?_
  intro b9 hb9
  refine x_bool rfl rfl rfl (v_not rfl) ?_
  intro b10 hb10
  refine x_end ?_
  refine t_norm ?_
  refine w_cond rfl (fun hc10 => ?_) (fun hc10 => ?_)
  · have hno : ¬payP ls := fun ⟨q1, q2, _⟩ => by
      rw [hb10, hb9] at hc10
      simp [wi] at hc10
      omega
    refine w_seq ?_
    refine rg_text ?_
    refine x_val rfl rfl rfl (v_assign rfl) ?_
    refine x_end ?_
    refine t_norm ?_
    refine w_ret ?_
    refine t_ret ?_
    refine ret1 rfl rfl (fun w' hm => ?_)
    rw [show invR ls = [] from by unfold invR; rw [if_neg hno]]
    exact ⟨_, rfl, hm.base (by simp), sliceRd_nil, fun _ => rfl⟩
  · have hlen : 1 ≤ ls.length ∧ ls.length ≤ 999 := by
      rw [hb10, hb9] at hc10
      simp [wi] at hc10
      omega
    refine w_skip ?_
    refine t_norm ?_
    refine w_seq ?_
    refine rg_text ?_
    refine x_val rfl rfl rfl (v_assign rfl) ?_
    refine x_end ?_
    refine t_norm ?_
    refine w_seq ?_
    refine w_seq ?_
    refine rg_text ?_
    refine x_val rfl rfl rfl (v_move rfl) ?_
    refine x_val rfl rfl rfl (v_len_slice Tryz.underlying28 rfl) ?_
    refine x_val rfl rfl rfl (v_move rfl) ?_
    refine x_end ?_
    refine t_norm ?_
    refine w_block ?_
    refine w_loop (σ := Nat) (fun k => k ≤ ls.length ∧ ∀ o ∈ ls.take k, wrO (pf o)) (fun k => [(0, Value.slice A ls.length cp), (3, Value.int .i64 (totalP (ls.take k))), (11, Value.slice A ls.length cp), (12, Value.int .i64 (ls.length : Nat)), (13, Value.int .i64 (k : Nat))]) (fun k => []) (fun k => [(w, fun _ => True)]) (fun k => ls.length - k) (0) (⟨Nat.zero_le _, fun o ho => by simp at ho⟩) (l_start (by repeat (first | exact Sub.nil | refine Sub.cons rfl ?_)) (fun _ h => h.less (List.nil_sublist _) (fun _ h => h))) ?_
    rintro k ⟨hk, hwr⟩
    refine w_state ([(0, Value.slice A ls.length cp), (3, Value.int .i64 (totalP (ls.take k))), (11, Value.slice A ls.length cp), (12, Value.int .i64 (ls.length : Nat)), (13, Value.int .i64 (k : Nat))]) ([]) ([(w, fun _ => True)]) ?_
    refine w_seq ?_
    refine rg_text ?_
    refine x_bool rfl rfl rfl (v_lss rfl rfl) ?_
    intro b14 hb14
    refine x_end ?_
    refine t_norm ?_
    refine w_seq ?_
    refine w_cond rfl (fun hc14 => ?_) (fun hc14 => ?_)
    · simp only [hb14, decide_eq_true_eq, decide_eq_false_iff_not, Bool.and_eq_true, Bool.or_eq_true, Bool.and_eq_false_iff, Bool.or_eq_false_iff, Bool.not_eq_true', Bool.not_eq_false', ne_eq, Decidable.not_not] at hc14
      have hkl : k < ls.length := by omega
      obtain ⟨ob, oo, hA, _, hc, hoA⟩ := ord_at hls hkl
      refine w_skip ?_
      refine t_norm ?_
      refine w_seq ?_
      refine w_block ?_
      refine w_seq ?_
      refine rg_text ?_
      refine x_val rfl rfl rfl (v_indexAddr Tryz.underlying28 sz25 (congrArg (fun A => some (Value.slice A ls.length cp)) hA) rfl (hkl) rfl) ?_
      refine x_val rfl rfl rfl (v_loadN (vs := ls[k].cells) Tryz.underlying25 rfl sz25 rfl (fun j hj => at_ro (.head _) trivial (hc j hj))) ?_
      refine x_alloc rfl rfl rfl zr25 ?_
      intro p5
      refine x_store0 [] rfl rfl rfl rfl sz25 rfl rfl ?_
      refine x_end ?_
      refine t_norm ?_
      refine w_seq ?_
      refine rg_text ?_
      refine x_val rfl rfl rfl (v_fieldAddr (off' := 1) Tryz.underlying25 rfl sz3 (by decide) rfl rfl) ?_
      refine x_store [] rfl rfl rfl rfl sz3 rfl (by show 2 ≤ 9; decide) ?_
      refine x_end ?_
      refine t_norm ?_
      refine w_seq ?_
      refine w_seq ?_
      refine w_state _ [(p5, Obj.cells (pf ls[k]).cells.toArray 25)] _ ?_
      refine rg_text ?_
      refine x_val rfl rfl rfl (v_load_blk (e := 25) (fz := (0, 0)) (cs := (pf ls[k]).cells.toArray) Tryz.underlying25 rfl rfl (.head _) sz25) ?_
      refine x_callb rfl rfl rfl Tryz.func30 (by kernel_rfl) rfl (fun w1 hw1 => c_writable (pf ls[k]) w1 (pf_ok hoA)) ?_
      intro b19 hb19
      refine x_bool rfl rfl rfl (v_not rfl) ?_
      intro b20 hb20
      refine x_end ?_
      refine t_norm ?_
      refine w_cond rfl (fun hc20 => ?_) (fun hc20 => ?_)
      · have hno : ¬payP ls := fun ⟨_, _, q⟩ => by
          rw [hb20, hb19, (writB_iff _).2 (q ls[k] (List.getElem_mem hkl))] at hc20
          cases hc20
        refine w_seq ?_
        refine rg_text ?_
        refine x_val rfl rfl rfl (v_assign rfl) ?_
        refine x_end ?_
        refine t_norm ?_
        refine w_ret ?_
        refine t_ret ?_
        refine b_ret ?_
        refine t_ret ?_
        refine t_ret ?_
        refine b_ret ?_
        refine t_ret ?_
        refine ret1 rfl rfl (fun w' hm => ?_)
        rw [show invR ls = [] from by unfold invR; rw [if_neg hno]]
        exact ⟨_, rfl, hm.base (by simp), sliceRd_nil, fun _ => rfl⟩
      · have hyes : wrO (pf ls[k]) := by
          rw [hb20, hb19] at hc20
          exact (writB_iff _).1 (by simpa using hc20)
        obtain ⟨g1, g2, _⟩ := line_rng hyes
        obtain ⟨t1, t2⟩ := total_le hwr
        rw [List.length_take] at t2
        have hst : totalP (ls.take (k + 1)) = totalP (ls.take k) + ls[k].copies * ls[k].price := by rw [take_snoc hkl, totalP_snoc]
        refine w_skip ?_
        refine t_norm ?_
        refine rg_text ?_
        refine x_val rfl rfl rfl (v_move rfl) ?_
        refine x_val rfl rfl rfl (v_fieldAddr (off' := 4) Tryz.underlying25 rfl sz3 (by decide) rfl rfl) ?_
        refine x_val rfl rfl rfl (v_load Tryz.underlying3 rfl rfl (at_ownL (vs := (pf ls[k]).cells) (.head _) rfl)) ?_
        refine x_val rfl rfl rfl (v_fieldAddr (off' := 5) Tryz.underlying25 rfl sz3 (by decide) rfl rfl) ?_
        refine x_val rfl rfl rfl (v_load Tryz.underlying3 rfl rfl (at_ownL (vs := (pf ls[k]).cells) (.head _) rfl)) ?_
        refine x_val rfl rfl rfl (v_muli (c := ls[k].copies * ls[k].price) rfl rfl rfl (by omega)) ?_
        refine x_val rfl rfl rfl (v_addi (c := totalP (ls.take (k + 1))) rfl rfl hst.symm (by rw [hst]; omega)) ?_
        refine x_val rfl rfl rfl (v_assign rfl) ?_
        refine x_end ?_
        refine b_norm ?_
        refine t_norm ?_
        refine rg_text ?_
        refine x_val rfl rfl rfl (v_addi rfl rfl rfl (by first | omega | (dsimp only; omega))) ?_
        refine x_val rfl rfl rfl (v_move rfl) ?_
        refine x_end ?_
        exact l_norm (k + 1) ⟨by omega, take_all_wr hkl hwr hyes⟩ (by omega) (by repeat (first | exact Sub.nil | refine Sub.cons rfl ?_)) (fun w1 h => h.less (List.nil_sublist _) (fun _ h => h))
    · simp only [hb14, decide_eq_true_eq, decide_eq_false_iff_not, Bool.and_eq_true, Bool.or_eq_true, Bool.and_eq_false_iff, Bool.or_eq_false_iff, Bool.not_eq_true', Bool.not_eq_false', ne_eq, Decidable.not_not] at hc14
      obtain rfl : k = ls.length := by omega
      rw [List.take_length] at hwr
      rw [List.take_length]
      have hyes : payP ls := ⟨hlen.1, hlen.2, hwr⟩
      obtain ⟨t1, t2⟩ := total_le hwr
      have it : in64 (totalP ls) := by unfold in64; omega
      refine w_exit ?_
      refine t_exit ?_
      refine t_exit ?_
      refine b_hit ?_
      refine t_norm ?_
      refine w_seq ?_
      refine rg_text ?_
      refine x_val rfl rfl rfl (v_move rfl) ?_
      refine x_val rfl rfl rfl (v_move rfl) ?_
      refine x_callv rfl rfl rfl Tryz.func32 (by kernel_rfl) rfl (fun w1 hw1 => c_number (totalP ls) w1 it (hL.later (hw1.base (by simp)))) ?_
      refine x_call (R := fun v wa wb => sliceRd tySeg (fun b => wa.heap.size ≤ b) wb v (withX ls (itoaS (totalP ls)))) rfl rfl rfl Tryz.func44 (by kernel_rfl) rfl (fun w1 hw1 => (c_withTotal w1 (hls.keep (Kept.later (hw1.base (by simp)))) (totalP ls) hwr (by omega) t1 it (hL.later (hw1.base (by simp)))).mono fun e w2 ⟨v, h1, h2, h3⟩ => ⟨_, h1, h2, h3⟩) ?_
      intro v32 wa32 wb32 hm32 hl32 hR32
      refine x_val rfl rfl rfl (v_assign rfl) ?_
      refine x_end ?_
      refine t_norm ?_
      refine w_ret ?_
      refine ret1 rfl rfl (fun w' hm => ?_)
      rw [show invR ls = withX ls (itoaS (totalP ls)) from by unfold invR; rw [if_pos hyes]]
      exact ⟨_, rfl, hm.base (by simp), hR32.keep (Kept.made0 hm hm32 (by simp) (by simp)), fun h => by rw [withX_len] at h; omega⟩
set_option maxHeartbeats 1000000 in
set_option maxRecDepth 100000 in
theorem c_RdIA {v : Value} {l : List Seg} {D : Nat → Prop} (w : World) (hl : sliceRd tySeg D w v l) (hbig : bigO l) (hL : LD w) (hC : 0 ≤ readP (totE l) ∧ itoaS (readP (totE l)) = totE l) :
    Calls Tryz.prog 18 #[v] w fun e w' => ∃ q, e = .returned (.tuple #[q, .int .i64 (rdI l).2]) ∧ Later w w' ∧ sliceRd tyOrd (fun b => w.heap.size ≤ b) w' q (rdI l).1 := by
  obtain ⟨A, cp, rfl, hlc, hmx, _⟩ := id hl
  refine enter (vs := [Value.slice A l.length cp]) Tryz.func18 rfl Tryz.ntmps18 rfl ?_
  refine w_seq ?_
  refine rg_text ?_
  refine x_val rfl rfl rfl (v_assign rfl) ?_
  refine x_val rfl rfl rfl (v_assign rfl) ?_
  refine x_end ?_
  refine t_norm ?_
  refine w_seq ?_
  refine rg_text ?_
  refine x_val rfl rfl rfl (v_assign rfl) ?_
  refine x_end ?_
  refine t_norm ?_
  refine w_seq ?_
  refine w_seq ?_
  refine rg_text ?_
  refine x_val rfl rfl rfl (v_assign rfl) ?_
  refine x_end ?_
  refine t_norm ?_
  refine w_block ?_
  refine w_loop (σ := Nat × RowS) (fun x => x.1 ≤ min 1000 ((l.length - 3) / 4) ∧ RowT tyOrd (fun _ => False) w x.2 ((List.range x.1).map (lineE l))) (fun x => [(0, Value.slice A l.length cp), (4, rowV x.2 x.1), (5, Value.int .i64 ((4 * x.1 + 2 : Nat) : Int))]) (fun x => rowO 25 x.2) (fun x => [(w, fun _ => True)]) (fun x => min 1000 ((l.length - 3) / 4) - x.1) ((0, none)) (⟨Nat.zero_le _, RowT.nil⟩) (l_start (by repeat (first | exact Sub.nil | refine Sub.cons rfl ?_)) (fun _ h => h)) ?_
  rintro ⟨k, R⟩ ⟨hk, hT⟩
  refine w_state ([(0, Value.slice A l.length cp), (4, rowV R k), (5, Value.int .i64 ((4 * k + 2 : Nat) : Int))]) (rowO 25 R) ([(w, fun _ => True)]) ?_
  dsimp only at hk hT
  have hln : ((List.range k).map (lineE l)).length = k := by simp
  refine w_seq ?_
  refine w_seq ?_
  refine rg_text ?_
  refine x_val rfl rfl rfl (v_move rfl) ?_
  refine x_val rfl rfl rfl (v_addi (c := ((4 * k + 6 : Nat) : Int)) rfl rfl (by omega) (by omega)) ?_
  refine x_val rfl rfl rfl (v_move rfl) ?_
  refine x_val rfl rfl rfl (v_len_slice Tryz.underlying29 rfl) ?_
  refine x_bool rfl rfl rfl (v_lss rfl rfl) ?_
  intro b13 hb13
  refine x_val rfl rfl rfl (v_move rfl) ?_
  refine x_if [] rfl rfl rfl rfl rfl (fun hg => by obtain ⟨hg0, _⟩ := hg; subst hg0; (try simp only [List.cons_append, List.nil_append, gvl_nil, gvl_t, gvl_f]); exact v_move rfl) ?_
  refine x_if [] rfl rfl rfl rfl rfl (fun hg => by obtain ⟨hg0, _⟩ := hg; subst hg0; (try simp only [List.cons_append, List.nil_append, gvl_nil, gvl_t, gvl_f]); exact v_len_slice Tryz.underlying28 rfl) ?_
  refine x_ifb [] rfl rfl rfl rfl rfl (fun hg => by obtain ⟨hg0, _⟩ := hg; subst hg0; (try simp only [List.cons_append, List.nil_append, gvl_nil, gvl_t, gvl_f]); exact v_leq rfl rfl) ?_
  intro b17 hb17
  refine x_bool rfl rfl rfl (v_and rfl rfl) ?_
  intro b18 hb18
  refine x_end ?_
  refine t_norm ?_
  refine w_cond rfl (fun hc18 => ?_) (fun hc18 => ?_)
  · simp only [hb18, hb17, hb13, decide_eq_true_eq, decide_eq_false_iff_not, Bool.and_eq_true, Bool.or_eq_true, Bool.and_eq_false_iff, Bool.or_eq_false_iff, Bool.not_eq_true', Bool.not_eq_false', ne_eq, Decidable.not_not] at hc18
    have hkc : k < min 1000 ((l.length - 3) / 4) := by omega
    refine w_skip ?_
    refine t_norm ?_
    refine w_seq ?_
    refine w_block ?_
    refine rg_text ?_
    refine x_val rfl rfl rfl (v_move rfl) ?_
    refine x_val rfl rfl rfl (v_move rfl) ?_
    refine x_val rfl rfl rfl (v_move rfl) ?_
    refine x_callv rfl rfl rfl Tryz.func40 (by kernel_rfl) rfl (fun w1 hw1 => c_text (4 * k + 2) 2 0 w1 (hl.keep (Kept.later (hw1.base (by simp))))) ?_
    refine x_callv rfl rfl rfl Tryz.func41 (by kernel_rfl) rfl (fun w1 hw1 => c_erec (txt l (4 * k + 2) 2 0) w1 (txt_sz hbig (4 * k + 2) 2 0) (hL.later (hw1.base (by simp)))) ?_
    refine x_val rfl rfl rfl (v_move rfl) ?_
    refine x_val rfl rfl rfl (v_move rfl) ?_
    refine x_val rfl rfl rfl (v_addi (c := ((4 * k + 3 : Nat) : Int)) rfl rfl (by omega) (by omega)) ?_
    refine x_callv rfl rfl rfl Tryz.func40 (by kernel_rfl) rfl (fun w1 hw1 => c_text (4 * k + 3) 0 1 w1 (hl.keep (Kept.later (hw1.base (by simp))))) ?_
    refine x_callv rfl rfl rfl Tryz.func39 (by kernel_rfl) rfl (fun w1 hw1 => c_read (txt l (4 * k + 3) 0 1) w1 (Nat.le_trans (txt_sz hbig (4 * k + 3) 0 1) (by decide)) (hL.later (hw1.base (by simp)))) ?_
    refine x_val rfl rfl rfl (v_move rfl) ?_
    refine x_val rfl rfl rfl (v_move rfl) ?_
    refine x_val rfl rfl rfl (v_addi (c := ((4 * k + 4 : Nat) : Int)) rfl rfl (by omega) (by omega)) ?_
    refine x_callv rfl rfl rfl Tryz.func40 (by kernel_rfl) rfl (fun w1 hw1 => c_text (4 * k + 4) 0 1 w1 (hl.keep (Kept.later (hw1.base (by simp))))) ?_
    refine x_callv rfl rfl rfl Tryz.func39 (by kernel_rfl) rfl (fun w1 hw1 => c_read (txt l (4 * k + 4) 0 1) w1 (Nat.le_trans (txt_sz hbig (4 * k + 4) 0 1) (by decide)) (hL.later (hw1.base (by simp)))) ?_
    refine x_val rfl rfl rfl (v_move rfl) ?_
    refine x_val rfl rfl rfl (v_move rfl) ?_
    refine x_val rfl rfl rfl (v_addi (c := ((4 * k + 5 : Nat) : Int)) rfl rfl (by omega) (by omega)) ?_
    refine x_callv rfl rfl rfl Tryz.func40 (by kernel_rfl) rfl (fun w1 hw1 => c_text (4 * k + 5) 0 1 w1 (hl.keep (Kept.later (hw1.base (by simp))))) ?_
    refine x_callv rfl rfl rfl Tryz.func39 (by kernel_rfl) rfl (fun w1 hw1 => c_read (txt l (4 * k + 5) 0 1) w1 (Nat.le_trans (txt_sz hbig (4 * k + 5) 0 1) (by decide)) (hL.later (hw1.base (by simp)))) ?_
    refine x_val rfl rfl rfl (v_buildL (places := [(0, 1), (1, 1), (2, 2), (4, 1), (5, 1), (6, 1), (7, 1), (8, 1)]) Tryz.underlying25 zr25 (by kernel_rfl) rfl rfl) ?_
    refine x_buildSliceL (cs := (lineE l k).cells) rfl rfl rfl Tryz.underlying28 sz25 zr25 rfl rfl rfl ?_
    intro p42
    obtain ⟨css, hcl, hrow, hrd⟩ := hT
    rw [hln] at hcl hrow
    refine x_append (e := 25) [(p42, Obj.cells (lineE l k).cells.toArray 25)] (l2 := []) R (len := k) (xs := css.flatten) rfl rfl rfl rfl (by rw [List.append_nil]; rfl) hrow Tryz.underlying28 ap25 rfl rfl (m := 1) (news := (lineE l k).cells) (fun i hi => at_ownL (vs := (lineE l k).cells) (.head _) (by rw [Nat.zero_add]; exact List.getElem?_eq_getElem hi)) rfl (by simp only [maxLen]; omega) (by omega) ?_
    intro R' hR'
    refine x_val rfl rfl rfl (v_assign rfl) ?_
    refine x_end ?_
    refine b_norm ?_
    refine t_norm ?_
    refine rg_text ?_
    refine x_val rfl rfl rfl (v_move rfl) ?_
    refine x_val rfl rfl rfl (v_addi (c := ((4 * k + 6 : Nat) : Int)) rfl rfl (by omega) (by omega)) ?_
    refine x_val rfl rfl rfl (v_assign rfl) ?_
    refine x_end ?_
    rw [List.append_nil]
    exact l_norm (x := (k, R)) (μ := fun q : Nat × RowS => min 1000 ((l.length - 3) / 4) - q.1) (k + 1, R') ⟨by dsimp only; omega, by dsimp only; rw [range_snoc]; exact snocN hln hcl hrd hR' ⟨rfl, lineE_okA l k⟩⟩ (by simp only; omega) (by dsimp only; rw [show 4 * (k + 1) + 2 = 4 * k + 6 by omega]; repeat (first | exact Sub.nil | refine Sub.cons rfl ?_)) (fun w1 h => h.less (List.sublist_append_right _ _) (fun _ h => h))
  · simp only [hb18, hb17, hb13, decide_eq_true_eq, decide_eq_false_iff_not, Bool.and_eq_true, Bool.or_eq_true, Bool.and_eq_false_iff, Bool.or_eq_false_iff, Bool.not_eq_true', Bool.not_eq_false', ne_eq, Decidable.not_not] at hc18
    obtain rfl : k = min 1000 ((l.length - 3) / 4) := by omega
    refine w_exit ?_
    refine t_exit ?_
    refine t_exit ?_
    refine b_hit ?_
    refine t_norm ?_
    refine w_seq ?_
    refine rg_text ?_
    refine x_val rfl rfl rfl (v_move rfl) ?_
    refine x_call (R := fun v wa wb => ∃ A1 c1, v = .slice A1 (invR (linesE l)).length c1 ∧ sliceRd tySeg (fun b => wa.heap.size ≤ b) wb (.slice A1 (invR (linesE l)).length c1) (invR (linesE l)) ∧ A1.isNone = decide ((invR (linesE l)).length = 0)) rfl rfl rfl Tryz.func16 (by kernel_rfl) rfl (fun w1 hw1 => (c_Invoice (ls := linesE l) w1 (hT.any (D' := fun _ => True) (e := 25) hw1 (fun q hq => hq) (fun _ _ => trivial) (by simp)) (hL.later (hw1.base (by simp)))).mono fun e w2 ⟨v, h1, h2, h3, h4⟩ => ord_out h1 h2 h3 h4) ?_
    intro v45 wa45 wb45 hm45 hl45 hR45
    obtain ⟨A1, c1, rfl, hr45, hn45⟩ := hR45
    refine x_val rfl rfl rfl (v_assign rfl) ?_
    refine x_end ?_
    refine t_norm ?_
    refine w_seq ?_
    refine w_seq ?_
    refine rg_text ?_
    refine x_val rfl rfl rfl (v_move rfl) ?_
    refine x_bool rfl rfl rfl (v_sliceNil Tryz.underlying29 rfl) ?_
    intro b47 hb47
    refine x_val rfl rfl rfl (v_move rfl) ?_
    refine x_if [] rfl rfl rfl rfl rfl (fun hg => by obtain ⟨hg0, _⟩ := hg; subst hg0; (try simp only [List.cons_append, List.nil_append, gvl_nil, gvl_t, gvl_f]); exact v_move rfl) ?_
    refine x_if [] rfl rfl rfl rfl rfl (fun hg => by obtain ⟨hg0, _⟩ := hg; subst hg0; (try simp only [List.cons_append, List.nil_append, gvl_nil, gvl_t, gvl_f]); exact v_len_slice Tryz.underlying29 rfl) ?_
    refine x_if [] rfl rfl rfl rfl rfl (fun hg => by obtain ⟨hg0, _⟩ := hg; subst hg0; (try simp only [List.cons_append, List.nil_append, gvl_nil, gvl_t, gvl_f]); exact v_move rfl) ?_
    refine x_if [] rfl rfl rfl rfl rfl (fun hg => by obtain ⟨hg0, _⟩ := hg; subst hg0; (try simp only [List.cons_append, List.nil_append, gvl_nil, gvl_t, gvl_f]); exact v_len_slice Tryz.underlying29 rfl) ?_
    refine x_ifb [] rfl rfl rfl rfl rfl (fun hg => by obtain ⟨hg0, _⟩ := hg; subst hg0; (try simp only [List.cons_append, List.nil_append, gvl_nil, gvl_t, gvl_f]); exact v_neq rfl rfl) ?_
    intro b53 hb53
    refine x_bool rfl rfl rfl (v_or rfl rfl) ?_
    intro b54 hb54
    refine x_end ?_
    refine t_norm ?_
    refine w_cond rfl (fun hc54 => ?_) (fun hc54 => ?_)
    · have hno : ¬(payP (linesE l) ∧ (invR (linesE l)).length = l.length) := fun ⟨q1, q2⟩ => by
        rw [hb54, hb53, hb47, hn45, q2] at hc54
        have q3 := invR_len (linesE l)
        rw [if_pos q1, q2] at q3
        simp at hc54
        rw [hc54] at q3
        simp at q3
      refine w_seq ?_
      refine rg_text ?_
      refine x_val rfl rfl rfl (v_assign rfl) ?_
      refine x_val rfl rfl rfl (v_assign rfl) ?_
      refine x_end ?_
      refine t_norm ?_
      refine w_ret ?_
      refine t_ret ?_
      refine ret2 rfl rfl rfl (fun w' hm => ?_)
      rw [show rdI l = ([], 11) from by unfold rdI; rw [if_neg hno]]
      exact ⟨_, rfl, hm.base (by simp), sliceRd_nil⟩
    · have hyes : (invR (linesE l)).length = l.length ∧ (invR (linesE l)).length ≠ 0 := by
        rw [hb54, hb53, hb47, hn45] at hc54
        simp only [Bool.or_eq_false_iff, decide_eq_false_iff_not, ne_eq, Decidable.not_not] at hc54
        exact ⟨by omega, hc54.1⟩
      obtain ⟨hle, hl0⟩ := hyes
      have hpay : payP (linesE l) := by
        apply Classical.byContradiction; intro q; apply hl0; rw [invR_len, if_neg q]
      obtain ⟨p1, p2, p3⟩ := id hpay
      have hl5 : l.length = 4 * (linesE l).length + 5 := by rw [← hle, invR_len, if_pos hpay]
      refine w_skip ?_
      refine t_norm ?_
      refine w_seq ?_
      refine rg_text ?_
      refine x_val rfl rfl rfl (v_move rfl) ?_
      refine x_val rfl rfl rfl (v_move rfl) ?_
      refine x_val rfl rfl rfl (v_len_slice Tryz.underlying29 rfl) ?_
      refine x_val rfl rfl rfl (v_subi (c := ((l.length - 2 : Nat) : Int)) rfl rfl (by omega) (by omega)) ?_
      refine x_callv rfl rfl rfl Tryz.func40 (by kernel_rfl) rfl (fun w1 hw1 => show Calls _ _ _ w1 (fun e w2 => e = .returned (.string (totE l)) ∧ Later w1 w2) from c_text (l.length - 2) 0 1 w1 (hl.keep (Kept.later (hw1.base (by simp))))) ?_
      refine x_val rfl rfl rfl (v_assign rfl) ?_
      refine x_end ?_
      refine t_norm ?_
      refine w_seq ?_
      refine w_seq ?_
      refine rg_text ?_
      refine x_val rfl rfl rfl (v_move rfl) ?_
      refine x_callv rfl rfl rfl Tryz.func39 (by kernel_rfl) rfl (fun w1 hw1 => c_read (totE l) w1 (Nat.le_trans (txt_sz hbig (l.length - 2) 0 1) (by decide)) (hL.later (hw1.base (by simp)))) ?_
      refine x_val rfl rfl rfl (v_assign rfl) ?_
      refine x_end ?_
      refine t_norm ?_
      refine w_block ?_
      refine w_seq ?_
      refine rg_text ?_
      refine x_val rfl rfl rfl (v_move rfl) ?_
      refine x_val rfl rfl rfl (v_move rfl) ?_
      refine x_callb rfl rfl rfl Tryz.func42 (by kernel_rfl) rfl (fun w1 hw1 => c_same (xs := invR (linesE l)) (ys := l) w1 (keep_new hr45 hw1 (by simp) hm45) (hl.keep (Kept.later (hw1.base (by simp))))) ?_
      intro b65 hb65
      refine x_val rfl rfl rfl (v_assign rfl) ?_
      refine x_end ?_
      refine t_norm ?_
      refine w_cond rfl (fun hc62 => ?_) (fun hc62 => ?_)
      · have hsame : invR (linesE l) = l := by rw [hb65] at hc62; simpa using hc62
        refine w_seq ?_
        refine rg_text ?_
        refine x_val rfl rfl rfl (v_move rfl) ?_
        refine x_val rfl rfl rfl (v_assign rfl) ?_
        refine x_val rfl rfl rfl (v_assign rfl) ?_
        refine x_end ?_
        refine t_norm ?_
        refine w_ret ?_
        refine b_ret ?_
        refine t_ret ?_
        refine ret2 rfl rfl rfl (fun w' hm => ?_)
        rw [show rdI l = (linesE l, 0) from by unfold rdI; rw [if_pos ⟨hpay, hle⟩, if_pos hsame]]
        exact ⟨_, rfl, hm.base (by simp), (hT.any (e := 25) hm (fun q hq => hq) (fun q hq => hm.newer (by simp) hq) (by simp))⟩
      · have hdiff : ¬invR (linesE l) = l := by rw [hb65] at hc62; simpa using hc62
        refine w_seq ?_
        refine rg_text ?_
        refine x_val rfl rfl rfl (v_move rfl) ?_
        refine x_bool rfl rfl rfl (v_geq rfl rfl) ?_
        intro b69 hb69
        obtain rfl : b69 = true := by rw [hb69]; exact decide_eq_true hC.1
        refine x_val rfl rfl rfl (v_move rfl) ?_
        refine x_if [] rfl rfl rfl rfl rfl (fun hg => by obtain ⟨hg0, _⟩ := hg; (try simp only [List.cons_append, List.nil_append, gvl_nil, gvl_t, gvl_f]); exact v_move rfl) ?_
        refine x_call_if [] rfl rfl rfl rfl rfl Tryz.func32 (by kernel_rfl) (fun hg => by obtain ⟨hg0, _⟩ := hg; (try simp only [List.cons_append, List.nil_append, gvl_nil, gvl_t, gvl_f]); refine ⟨_, rfl, ?_⟩; exact fun w1 hw1 => c_number (readP (totE l)) w1 (readP_in _) (hL.later (hw1.base (by simp)))) ?_
        refine x_if [] rfl rfl rfl rfl rfl (fun hg => by obtain ⟨hg0, _⟩ := hg; (try simp only [List.cons_append, List.nil_append, gvl_nil, gvl_t, gvl_f]); exact v_move rfl) ?_
        refine x_ifb [] rfl rfl rfl rfl rfl (fun hg => by obtain ⟨hg0, _⟩ := hg; (try simp only [List.cons_append, List.nil_append, gvl_nil, gvl_t, gvl_f]); exact v_seql rfl rfl) ?_
        intro b74 hb74
        obtain rfl : b74 = true := by rw [hb74]; exact decide_eq_true hC.2
        refine x_bool rfl rfl rfl (v_and rfl rfl) ?_
        intro b75 hb75
        obtain rfl : b75 = true := hb75
        refine x_val rfl rfl rfl (v_move rfl) ?_
        refine x_if [] rfl rfl rfl rfl rfl (fun hg => by obtain ⟨hg0, _⟩ := hg; (try simp only [List.cons_append, List.nil_append, gvl_nil, gvl_t, gvl_f]); exact v_move rfl) ?_
        refine x_if [] rfl rfl rfl rfl rfl (fun hg => by obtain ⟨hg0, _⟩ := hg; (try simp only [List.cons_append, List.nil_append, gvl_nil, gvl_t, gvl_f]); exact v_move rfl) ?_
        refine x_call_g (R := fun v wa wb => sliceRd tySeg (fun b => wa.heap.size ≤ b) wb v (withX (linesE l) (totE l))) rfl rfl rfl rfl rfl Tryz.func44 (by kernel_rfl) rfl (fun w1 hw1 => (c_withTotalT (ls := linesE l) w1 (hT.any (D' := fun _ => True) (e := 25) hw1 (fun q hq => hq) (fun _ _ => trivial) (by simp)) (readP (totE l)) p3 (by omega) hC.1 (readP_in _) (hL.later (hw1.base (by simp))) hC.2).mono fun e w2 ⟨v, h1, h2, h3⟩ => ⟨_, h1, h2, h3⟩) ?_
        intro v79 wa79 wb79 hm79 hl79 hR79
        refine x_if [] rfl rfl rfl rfl rfl (fun hg => by obtain ⟨hg0, _⟩ := hg; (try simp only [List.cons_append, List.nil_append, gvl_nil, gvl_t, gvl_f]); exact v_move rfl) ?_
        refine x_call_ifb [] rfl rfl rfl rfl rfl Tryz.func42 (by kernel_rfl) (fun hg => by obtain ⟨hg0, _⟩ := hg; (try simp only [List.cons_append, List.nil_append, gvl_nil, gvl_t, gvl_f]); refine ⟨_, rfl, ?_⟩; exact fun w1 hw1 => c_same (xs := withX (linesE l) (totE l)) (ys := l) w1 (keep_new hR79 hw1 (by simp) hm79) (hl.keep (Kept.later (hw1.base (by simp))))) ?_
        intro b81 hb81
        refine x_bool rfl rfl rfl (v_and rfl rfl) ?_
        intro b82 hb82
        refine x_val rfl rfl rfl (v_assign rfl) ?_
        refine x_end ?_
        refine t_norm ?_
        refine w_cond rfl (fun hc67 => ?_) (fun hc67 => ?_)
        · have hw60 : withX (linesE l) (totE l) = l := by
            rw [hb82, hb81] at hc67
            simpa using hc67
          refine w_seq ?_
          refine rg_text ?_
          refine x_val rfl rfl rfl (v_assign rfl) ?_
          refine x_val rfl rfl rfl (v_assign rfl) ?_
          refine x_end ?_
          refine t_norm ?_
          refine w_ret ?_
          refine b_ret ?_
          refine t_ret ?_
          refine ret2 rfl rfl rfl (fun w' hm => ?_)
          rw [show rdI l = ([], 60) from by unfold rdI; rw [if_pos ⟨hpay, hle⟩, if_neg hdiff, if_pos ⟨hC.1, hC.2, hw60⟩]]
          exact ⟨_, rfl, hm.base (by simp), sliceRd_nil⟩
        · have hw60 : ¬withX (linesE l) (totE l) = l := by
            rw [hb82, hb81] at hc67
            simpa using hc67
          refine w_skip ?_
          refine b_norm ?_
          refine t_norm ?_
          refine w_seq ?_
          refine rg_text ?_
          refine x_val rfl rfl rfl (v_assign rfl) ?_
          refine x_val rfl rfl rfl (v_assign rfl) ?_
          refine x_end ?_
          refine t_norm ?_
          refine w_ret ?_
          refine ret2 rfl rfl rfl (fun w' hm => ?_)
          rw [show rdI l = ([], 11) from by unfold rdI; rw [if_pos ⟨hpay, hle⟩, if_neg hdiff, if_neg (fun q => hw60 q.2.2)]]
          exact ⟨_, rfl, hm.base (by simp), sliceRd_nil⟩
set_option maxHeartbeats 1000000 in
set_option maxRecDepth 100000 in
theorem c_RdIB {v : Value} {l : List Seg} {D : Nat → Prop} (w : World) (hl : sliceRd tySeg D w v l) (hbig : bigO l) (hL : LD w) (hC : ¬(0 ≤ readP (totE l) ∧ itoaS (readP (totE l)) = totE l)) :
    Calls Tryz.prog 18 #[v] w fun e w' => ∃ q, e = .returned (.tuple #[q, .int .i64 (rdI l).2]) ∧ Later w w' ∧ sliceRd tyOrd (fun b => w.heap.size ≤ b) w' q (rdI l).1 := by
  obtain ⟨A, cp, rfl, hlc, hmx, _⟩ := id hl
  refine enter (vs := [Value.slice A l.length cp]) Tryz.func18 rfl Tryz.ntmps18 rfl ?_
  refine w_seq ?_
  refine rg_text ?_
  refine x_val rfl rfl rfl (v_assign rfl) ?_
  refine x_val rfl rfl rfl (v_assign rfl) ?_
  refine x_end ?_
  refine t_norm ?_
  refine w_seq ?_
  refine rg_text ?_
  refine x_val rfl rfl rfl (v_assign rfl) ?_
  refine x_end ?_
  refine t_norm ?_
  refine w_seq ?_
  refine w_seq ?_
  refine rg_text ?_
  refine x_val rfl rfl rfl (v_assign rfl) ?_
  refine x_end ?_
  refine t_norm ?_
  refine w_block ?_
  refine w_loop (σ := Nat × RowS) (fun x => x.1 ≤ min 1000 ((l.length - 3) / 4) ∧ RowT tyOrd (fun _ => False) w x.2 ((List.range x.1).map (lineE l))) (fun x => [(0, Value.slice A l.length cp), (4, rowV x.2 x.1), (5, Value.int .i64 ((4 * x.1 + 2 : Nat) : Int))]) (fun x => rowO 25 x.2) (fun x => [(w, fun _ => True)]) (fun x => min 1000 ((l.length - 3) / 4) - x.1) ((0, none)) (⟨Nat.zero_le _, RowT.nil⟩) (l_start (by repeat (first | exact Sub.nil | refine Sub.cons rfl ?_)) (fun _ h => h)) ?_
  rintro ⟨k, R⟩ ⟨hk, hT⟩
  refine w_state ([(0, Value.slice A l.length cp), (4, rowV R k), (5, Value.int .i64 ((4 * k + 2 : Nat) : Int))]) (rowO 25 R) ([(w, fun _ => True)]) ?_
  dsimp only at hk hT
  have hln : ((List.range k).map (lineE l)).length = k := by simp
  refine w_seq ?_
  refine w_seq ?_
  refine rg_text ?_
  refine x_val rfl rfl rfl (v_move rfl) ?_
  refine x_val rfl rfl rfl (v_addi (c := ((4 * k + 6 : Nat) : Int)) rfl rfl (by omega) (by omega)) ?_
  refine x_val rfl rfl rfl (v_move rfl) ?_
  refine x_val rfl rfl rfl (v_len_slice Tryz.underlying29 rfl) ?_
  refine x_bool rfl rfl rfl (v_lss rfl rfl) ?_
  intro b13 hb13
  refine x_val rfl rfl rfl (v_move rfl) ?_
  refine x_if [] rfl rfl rfl rfl rfl (fun hg => by obtain ⟨hg0, _⟩ := hg; subst hg0; (try simp only [List.cons_append, List.nil_append, gvl_nil, gvl_t, gvl_f]); exact v_move rfl) ?_
  refine x_if [] rfl rfl rfl rfl rfl (fun hg => by obtain ⟨hg0, _⟩ := hg; subst hg0; (try simp only [List.cons_append, List.nil_append, gvl_nil, gvl_t, gvl_f]); exact v_len_slice Tryz.underlying28 rfl) ?_
  refine x_ifb [] rfl rfl rfl rfl rfl (fun hg => by obtain ⟨hg0, _⟩ := hg; subst hg0; (try simp only [List.cons_append, List.nil_append, gvl_nil, gvl_t, gvl_f]); exact v_leq rfl rfl) ?_
  intro b17 hb17
  refine x_bool rfl rfl rfl (v_and rfl rfl) ?_
  intro b18 hb18
  refine x_end ?_
  refine t_norm ?_
  refine w_cond rfl (fun hc18 => ?_) (fun hc18 => ?_)
  · simp only [hb18, hb17, hb13, decide_eq_true_eq, decide_eq_false_iff_not, Bool.and_eq_true, Bool.or_eq_true, Bool.and_eq_false_iff, Bool.or_eq_false_iff, Bool.not_eq_true', Bool.not_eq_false', ne_eq, Decidable.not_not] at hc18
    have hkc : k < min 1000 ((l.length - 3) / 4) := by omega
    refine w_skip ?_
    refine t_norm ?_
    refine w_seq ?_
    refine w_block ?_
    refine rg_text ?_
    refine x_val rfl rfl rfl (v_move rfl) ?_
    refine x_val rfl rfl rfl (v_move rfl) ?_
    refine x_val rfl rfl rfl (v_move rfl) ?_
    refine x_callv rfl rfl rfl Tryz.func40 (by kernel_rfl) rfl (fun w1 hw1 => c_text (4 * k + 2) 2 0 w1 (hl.keep (Kept.later (hw1.base (by simp))))) ?_
    refine x_callv rfl rfl rfl Tryz.func41 (by kernel_rfl) rfl (fun w1 hw1 => c_erec (txt l (4 * k + 2) 2 0) w1 (txt_sz hbig (4 * k + 2) 2 0) (hL.later (hw1.base (by simp)))) ?_
    refine x_val rfl rfl rfl (v_move rfl) ?_
    refine x_val rfl rfl rfl (v_move rfl) ?_
    refine x_val rfl rfl rfl (v_addi (c := ((4 * k + 3 : Nat) : Int)) rfl rfl (by omega) (by omega)) ?_
    refine x_callv rfl rfl rfl Tryz.func40 (by kernel_rfl) rfl (fun w1 hw1 => c_text (4 * k + 3) 0 1 w1 (hl.keep (Kept.later (hw1.base (by simp))))) ?_
    refine x_callv rfl rfl rfl Tryz.func39 (by kernel_rfl) rfl (fun w1 hw1 => c_read (txt l (4 * k + 3) 0 1) w1 (Nat.le_trans (txt_sz hbig (4 * k + 3) 0 1) (by decide)) (hL.later (hw1.base (by simp)))) ?_
    refine x_val rfl rfl rfl (v_move rfl) ?_
    refine x_val rfl rfl rfl (v_move rfl) ?_
    refine x_val rfl rfl rfl (v_addi (c := ((4 * k + 4 : Nat) : Int)) rfl rfl (by omega) (by omega)) ?_
    refine x_callv rfl rfl rfl Tryz.func40 (by kernel_rfl) rfl (fun w1 hw1 => c_text (4 * k + 4) 0 1 w1 (hl.keep (Kept.later (hw1.base (by simp))))) ?_
    refine x_callv rfl rfl rfl Tryz.func39 (by kernel_rfl) rfl (fun w1 hw1 => c_read (txt l (4 * k + 4) 0 1) w1 (Nat.le_trans (txt_sz hbig (4 * k + 4) 0 1) (by decide)) (hL.later (hw1.base (by simp)))) ?_
    refine x_val rfl rfl rfl (v_move rfl) ?_
    refine x_val rfl rfl rfl (v_move rfl) ?_
    refine x_val rfl rfl rfl (v_addi (c := ((4 * k + 5 : Nat) : Int)) rfl rfl (by omega) (by omega)) ?_
    refine x_callv rfl rfl rfl Tryz.func40 (by kernel_rfl) rfl (fun w1 hw1 => c_text (4 * k + 5) 0 1 w1 (hl.keep (Kept.later (hw1.base (by simp))))) ?_
    refine x_callv rfl rfl rfl Tryz.func39 (by kernel_rfl) rfl (fun w1 hw1 => c_read (txt l (4 * k + 5) 0 1) w1 (Nat.le_trans (txt_sz hbig (4 * k + 5) 0 1) (by decide)) (hL.later (hw1.base (by simp)))) ?_
    refine x_val rfl rfl rfl (v_buildL (places := [(0, 1), (1, 1), (2, 2), (4, 1), (5, 1), (6, 1), (7, 1), (8, 1)]) Tryz.underlying25 zr25 (by kernel_rfl) rfl rfl) ?_
    refine x_buildSliceL (cs := (lineE l k).cells) rfl rfl rfl Tryz.underlying28 sz25 zr25 rfl rfl rfl ?_
    intro p42
    obtain ⟨css, hcl, hrow, hrd⟩ := hT
    rw [hln] at hcl hrow
    refine x_append (e := 25) [(p42, Obj.cells (lineE l k).cells.toArray 25)] (l2 := []) R (len := k) (xs := css.flatten) rfl rfl rfl rfl (by rw [List.append_nil]; rfl) hrow Tryz.underlying28 ap25 rfl rfl (m := 1) (news := (lineE l k).cells) (fun i hi => at_ownL (vs := (lineE l k).cells) (.head _) (by rw [Nat.zero_add]; exact List.getElem?_eq_getElem hi)) rfl (by simp only [maxLen]; omega) (by omega) ?_
    intro R' hR'
    refine x_val rfl rfl rfl (v_assign rfl) ?_
    refine x_end ?_
    refine b_norm ?_
    refine t_norm ?_
    refine rg_text ?_
    refine x_val rfl rfl rfl (v_move rfl) ?_
    refine x_val rfl rfl rfl (v_addi (c := ((4 * k + 6 : Nat) : Int)) rfl rfl (by omega) (by omega)) ?_
    refine x_val rfl rfl rfl (v_assign rfl) ?_
    refine x_end ?_
    rw [List.append_nil]
    exact l_norm (x := (k, R)) (μ := fun q : Nat × RowS => min 1000 ((l.length - 3) / 4) - q.1) (k + 1, R') ⟨by dsimp only; omega, by dsimp only; rw [range_snoc]; exact snocN hln hcl hrd hR' ⟨rfl, lineE_okA l k⟩⟩ (by simp only; omega) (by dsimp only; rw [show 4 * (k + 1) + 2 = 4 * k + 6 by omega]; repeat (first | exact Sub.nil | refine Sub.cons rfl ?_)) (fun w1 h => h.less (List.sublist_append_right _ _) (fun _ h => h))
  · simp only [hb18, hb17, hb13, decide_eq_true_eq, decide_eq_false_iff_not, Bool.and_eq_true, Bool.or_eq_true, Bool.and_eq_false_iff, Bool.or_eq_false_iff, Bool.not_eq_true', Bool.not_eq_false', ne_eq, Decidable.not_not] at hc18
    obtain rfl : k = min 1000 ((l.length - 3) / 4) := by omega
    refine w_exit ?_
    refine t_exit ?_
    refine t_exit ?_
    refine b_hit ?_
    refine t_norm ?_
    refine w_seq ?_
    refine rg_text ?_
    refine x_val rfl rfl rfl (v_move rfl) ?_
    refine x_call (R := fun v wa wb => ∃ A1 c1, v = .slice A1 (invR (linesE l)).length c1 ∧ sliceRd tySeg (fun b => wa.heap.size ≤ b) wb (.slice A1 (invR (linesE l)).length c1) (invR (linesE l)) ∧ A1.isNone = decide ((invR (linesE l)).length = 0)) rfl rfl rfl Tryz.func16 (by kernel_rfl) rfl (fun w1 hw1 => (c_Invoice (ls := linesE l) w1 (hT.any (D' := fun _ => True) (e := 25) hw1 (fun q hq => hq) (fun _ _ => trivial) (by simp)) (hL.later (hw1.base (by simp)))).mono fun e w2 ⟨v, h1, h2, h3, h4⟩ => ord_out h1 h2 h3 h4) ?_
    intro v45 wa45 wb45 hm45 hl45 hR45
    obtain ⟨A1, c1, rfl, hr45, hn45⟩ := hR45
    refine x_val rfl rfl rfl (v_assign rfl) ?_
    refine x_end ?_
    refine t_norm ?_
    refine w_seq ?_
    refine w_seq ?_
    refine rg_text ?_
    refine x_val rfl rfl rfl (v_move rfl) ?_
    refine x_bool rfl rfl rfl (v_sliceNil Tryz.underlying29 rfl) ?_
    intro b47 hb47
    refine x_val rfl rfl rfl (v_move rfl) ?_
    refine x_if [] rfl rfl rfl rfl rfl (fun hg => by obtain ⟨hg0, _⟩ := hg; subst hg0; (try simp only [List.cons_append, List.nil_append, gvl_nil, gvl_t, gvl_f]); exact v_move rfl) ?_
    refine x_if [] rfl rfl rfl rfl rfl (fun hg => by obtain ⟨hg0, _⟩ := hg; subst hg0; (try simp only [List.cons_append, List.nil_append, gvl_nil, gvl_t, gvl_f]); exact v_len_slice Tryz.underlying29 rfl) ?_
    refine x_if [] rfl rfl rfl rfl rfl (fun hg => by obtain ⟨hg0, _⟩ := hg; subst hg0; (try simp only [List.cons_append, List.nil_append, gvl_nil, gvl_t, gvl_f]); exact v_move rfl) ?_
    refine x_if [] rfl rfl rfl rfl rfl (fun hg => by obtain ⟨hg0, _⟩ := hg; subst hg0; (try simp only [List.cons_append, List.nil_append, gvl_nil, gvl_t, gvl_f]); exact v_len_slice Tryz.underlying29 rfl) ?_
    refine x_ifb [] rfl rfl rfl rfl rfl (fun hg => by obtain ⟨hg0, _⟩ := hg; subst hg0; (try simp only [List.cons_append, List.nil_append, gvl_nil, gvl_t, gvl_f]); exact v_neq rfl rfl) ?_
    intro b53 hb53
    refine x_bool rfl rfl rfl (v_or rfl rfl) ?_
    intro b54 hb54
    refine x_end ?_
    refine t_norm ?_
    refine w_cond rfl (fun hc54 => ?_) (fun hc54 => ?_)
    · have hno : ¬(payP (linesE l) ∧ (invR (linesE l)).length = l.length) := fun ⟨q1, q2⟩ => by
        rw [hb54, hb53, hb47, hn45, q2] at hc54
        have q3 := invR_len (linesE l)
        rw [if_pos q1, q2] at q3
        simp at hc54
        rw [hc54] at q3
        simp at q3
      refine w_seq ?_
      refine rg_text ?_
      refine x_val rfl rfl rfl (v_assign rfl) ?_
      refine x_val rfl rfl rfl (v_assign rfl) ?_
      refine x_end ?_
      refine t_norm ?_
      refine w_ret ?_
      refine t_ret ?_
      refine ret2 rfl rfl rfl (fun w' hm => ?_)
      rw [show rdI l = ([], 11) from by unfold rdI; rw [if_neg hno]]
      exact ⟨_, rfl, hm.base (by simp), sliceRd_nil⟩
    · have hyes : (invR (linesE l)).length = l.length ∧ (invR (linesE l)).length ≠ 0 := by
        rw [hb54, hb53, hb47, hn45] at hc54
        simp only [Bool.or_eq_false_iff, decide_eq_false_iff_not, ne_eq, Decidable.not_not] at hc54
        exact ⟨by omega, hc54.1⟩
      obtain ⟨hle, hl0⟩ := hyes
      have hpay : payP (linesE l) := by
        apply Classical.byContradiction; intro q; apply hl0; rw [invR_len, if_neg q]
      obtain ⟨p1, p2, p3⟩ := id hpay
      have hl5 : l.length = 4 * (linesE l).length + 5 := by rw [← hle, invR_len, if_pos hpay]
      refine w_skip ?_
      refine t_norm ?_
      refine w_seq ?_
      refine rg_text ?_
      refine x_val rfl rfl rfl (v_move rfl) ?_
      refine x_val rfl rfl rfl (v_move rfl) ?_
      refine x_val rfl rfl rfl (v_len_slice Tryz.underlying29 rfl) ?_
      refine x_val rfl rfl rfl (v_subi (c := ((l.length - 2 : Nat) : Int)) rfl rfl (by omega) (by omega)) ?_
      refine x_callv rfl rfl rfl Tryz.func40 (by kernel_rfl) rfl (fun w1 hw1 => show Calls _ _ _ w1 (fun e w2 => e = .returned (.string (totE l)) ∧ Later w1 w2) from c_text (l.length - 2) 0 1 w1 (hl.keep (Kept.later (hw1.base (by simp))))) ?_
      refine x_val rfl rfl rfl (v_assign rfl) ?_
      refine x_end ?_
      refine t_norm ?_
      refine w_seq ?_
      refine w_seq ?_
      refine rg_text ?_
      refine x_val rfl rfl rfl (v_move rfl) ?_
      refine x_callv rfl rfl rfl Tryz.func39 (by kernel_rfl) rfl (fun w1 hw1 => c_read (totE l) w1 (Nat.le_trans (txt_sz hbig (l.length - 2) 0 1) (by decide)) (hL.later (hw1.base (by simp)))) ?_
      refine x_val rfl rfl rfl (v_assign rfl) ?_
      refine x_end ?_
      refine t_norm ?_
      refine w_block ?_
      refine w_seq ?_
      refine rg_text ?_
      refine x_val rfl rfl rfl (v_move rfl) ?_
      refine x_val rfl rfl rfl (v_move rfl) ?_
      refine x_callb rfl rfl rfl Tryz.func42 (by kernel_rfl) rfl (fun w1 hw1 => c_same (xs := invR (linesE l)) (ys := l) w1 (keep_new hr45 hw1 (by simp) hm45) (hl.keep (Kept.later (hw1.base (by simp))))) ?_
      intro b65 hb65
      refine x_val rfl rfl rfl (v_assign rfl) ?_
      refine x_end ?_
      refine t_norm ?_
      refine w_cond rfl (fun hc62 => ?_) (fun hc62 => ?_)
      · have hsame : invR (linesE l) = l := by rw [hb65] at hc62; simpa using hc62
        refine w_seq ?_
        refine rg_text ?_
        refine x_val rfl rfl rfl (v_move rfl) ?_
        refine x_val rfl rfl rfl (v_assign rfl) ?_
        refine x_val rfl rfl rfl (v_assign rfl) ?_
        refine x_end ?_
        refine t_norm ?_
        refine w_ret ?_
        refine b_ret ?_
        refine t_ret ?_
        refine ret2 rfl rfl rfl (fun w' hm => ?_)
        rw [show rdI l = (linesE l, 0) from by unfold rdI; rw [if_pos ⟨hpay, hle⟩, if_pos hsame]]
        exact ⟨_, rfl, hm.base (by simp), (hT.any (e := 25) hm (fun q hq => hq) (fun q hq => hm.newer (by simp) hq) (by simp))⟩
      · have hdiff : ¬invR (linesE l) = l := by rw [hb65] at hc62; simpa using hc62
        refine w_seq ?_
        refine rg_text ?_
        refine x_val rfl rfl rfl (v_move rfl) ?_
        refine x_bool rfl rfl rfl (v_geq rfl rfl) ?_
        intro b69 hb69
        refine x_val rfl rfl rfl (v_move rfl) ?_
        refine x_if [] rfl rfl rfl rfl rfl (fun hg => by obtain ⟨hg0, _⟩ := hg; subst hg0; (try simp only [List.cons_append, List.nil_append, gvl_nil, gvl_t, gvl_f]); exact v_move rfl) ?_
        refine x_call_if [] rfl rfl rfl rfl rfl Tryz.func32 (by kernel_rfl) (fun hg => by obtain ⟨hg0, _⟩ := hg; subst hg0; (try simp only [List.cons_append, List.nil_append, gvl_nil, gvl_t, gvl_f]); refine ⟨_, rfl, ?_⟩; exact fun w1 hw1 => c_number (readP (totE l)) w1 (readP_in _) (hL.later (hw1.base (by simp)))) ?_
        refine x_if [] rfl rfl rfl rfl rfl (fun hg => by obtain ⟨hg0, _⟩ := hg; subst hg0; (try simp only [List.cons_append, List.nil_append, gvl_nil, gvl_t, gvl_f]); exact v_move rfl) ?_
        refine x_ifb [] rfl rfl rfl rfl rfl (fun hg => by obtain ⟨hg0, _⟩ := hg; subst hg0; (try simp only [List.cons_append, List.nil_append, gvl_nil, gvl_t, gvl_f]); exact v_seql rfl rfl) ?_
        intro b74 hb74
        refine x_bool rfl rfl rfl (v_and rfl rfl) ?_
        intro b75 hb75
        obtain rfl : b75 = false := by
              rw [hb75, hb74, hb69]
              rw [← Bool.not_eq_true]
              simpa using hC
        refine x_val rfl rfl rfl (v_move rfl) ?_
        refine x_no rfl rfl rfl rfl rfl ?_
        refine x_no rfl rfl rfl rfl rfl ?_
        refine x_no rfl rfl rfl rfl rfl ?_
        refine x_no rfl rfl rfl rfl rfl ?_
        refine x_no rfl rfl rfl rfl rfl ?_
        refine x_val (v := .bool false) rfl rfl rfl (v_pick (b := false) rfl rfl) ?_
        refine x_val rfl rfl rfl (v_assign rfl) ?_
        refine x_end ?_
        refine t_norm ?_
        refine w_cond rfl (fun hc67 => ?_) (fun hc67 => ?_)
        · cases hc67
        · skip
          refine w_skip ?_
          refine b_norm ?_
          refine t_norm ?_
          refine w_seq ?_
          refine rg_text ?_
          refine x_val rfl rfl rfl (v_assign rfl) ?_
          refine x_val rfl rfl rfl (v_assign rfl) ?_
          refine x_end ?_
          refine t_norm ?_
          refine w_ret ?_
          refine ret2 rfl rfl rfl (fun w' hm => ?_)
          rw [show rdI l = ([], 11) from by unfold rdI; rw [if_pos ⟨hpay, hle⟩, if_neg hdiff, if_neg (fun q => hC ⟨q.1, q.2.1⟩)]]
          exact ⟨_, rfl, hm.base (by simp), sliceRd_nil⟩
theorem c_ReadInvoice {v : Value} {l : List Seg} {D : Nat → Prop} (w : World) (hl : sliceRd tySeg D w v l) (hbig : bigO l) (hL : LD w) : Calls Tryz.prog 18 #[v] w fun e w' => ∃ q, e = .returned (.tuple #[q, .int .i64 (rdI l).2]) ∧ Later w w' ∧ sliceRd tyOrd (fun b => w.heap.size ≤ b) w' q (rdI l).1 := by
  by_cases hC : 0 ≤ readP (totE l) ∧ itoaS (readP (totE l)) = totE l
  · exact c_RdIA w hl hbig hL hC
  · exact c_RdIB w hl hbig hL hC

end Go.Proofs.YtbamklefagghcaaGreatDoor

namespace Go.Proofs.YtbamklefagghcaaGreatDoor
open Go.RowKit Go.PK
set_option linter.unusedVariables false
set_option linter.unusedSimpArgs false
set_option maxRecDepth 100000 in
theorem c_cut {v : Value} {ls : List PK.Ord} {D : Nat → Prop} (w : World) (hls : sliceRd tyOrd D w v ls) (m : Nat) (hm9 : m ≤ 1000) :
    Calls Tryz.prog 15 #[v, .int .i64 (m : Nat)] w fun e w' => ∃ q, e = .returned q ∧ Later w w' ∧ sliceRd tyOrd (fun b => w.heap.size ≤ b) w' q (cutP ls m) := by
  obtain ⟨A, cp, rfl, hlc, hmx, _⟩ := id hls
  refine enter (vs := [Value.slice A ls.length cp, .int .i64 (m : Nat)]) Tryz.func15 rfl Tryz.ntmps15 rfl ?_
  refine w_seq ?_
  refine rg_text ?_
  refine x_val rfl rfl rfl (v_assign rfl) ?_
  refine x_end ?_
  refine t_norm ?_
  refine w_seq ?_
  refine rg_text ?_
  refine x_val rfl rfl rfl (v_assign rfl) ?_
  refine x_end ?_
  refine t_norm ?_
  refine w_seq ?_
  refine w_seq ?_
  refine rg_text ?_
  refine x_val rfl rfl rfl (v_move rfl) ?_
  refine x_val rfl rfl rfl (v_move rfl) ?_
  refine x_val rfl rfl rfl (v_len_slice Tryz.underlying28 rfl) ?_
  refine x_val rfl rfl rfl (v_move rfl) ?_
  refine x_val (v := Value.int .i64 (((min ls.length m) : Nat) : Int)) rfl rfl rfl (by rw [show (((min ls.length m) : Nat) : Int) = min (ls.length : Int) (m : Int) by omega]; exact v_min rfl rfl) ?_
  refine x_val rfl rfl rfl (v_scut_to (j := (min ls.length m)) Tryz.underlying28 sz25 rfl rfl (by omega)) ?_
  refine x_val rfl rfl rfl (v_len_slice Tryz.underlying28 rfl) ?_
  refine x_val rfl rfl rfl (v_move rfl) ?_
  refine x_end ?_
  refine t_norm ?_
  refine w_block ?_
  obtain ⟨ts, hts⟩ : ∃ ts, ls.take (min ls.length m) = ts := ⟨_, rfl⟩
  have hml : ts.length = (min ls.length m) := by rw [← hts, List.length_take]; omega
  have htr := hls.take (min ls.length m) (Nat.min_le_left _ _)
  rw [hts, ← hml] at htr
  rw [← hml]
  have htm : ts.length ≤ 9223372036854775807 := by omega
  refine w_loop (σ := Nat × RowS) (fun x => x.1 ≤ ts.length ∧ RowT tyOrd (fun _ => False) w x.2 ((ts.take x.1).map smallI)) (fun x => [(13, Value.slice A ts.length cp), (14, Value.int .i64 (ts.length : Nat)), (5, rowV x.2 x.1), (15, Value.int .i64 (x.1 : Nat))]) (fun x => rowO 25 x.2) (fun x => [(w, fun _ => True)]) (fun x => ts.length - x.1) ((0, none)) (⟨Nat.zero_le _, RowT.nil⟩) (l_start (by repeat (first | exact Sub.nil | refine Sub.cons rfl ?_)) (fun _ h => h)) ?_
  rintro ⟨k, R⟩ ⟨hk, hT⟩
  refine w_state ([(13, Value.slice A ts.length cp), (14, Value.int .i64 (ts.length : Nat)), (5, rowV R k), (15, Value.int .i64 (k : Nat))]) (rowO 25 R) ([(w, fun _ => True)]) ?_
  dsimp only at hk hT
  have hln : ((ts.take k).map smallI).length = k := by simp; omega
  refine w_seq ?_
  refine rg_text ?_
  refine x_bool rfl rfl rfl (v_lss rfl rfl) ?_
  intro b16 hb16
  refine x_end ?_
  refine t_norm ?_
  refine w_seq ?_
  refine w_cond rfl (fun hc16 => ?_) (fun hc16 => ?_)
  · simp only [hb16, decide_eq_true_eq, decide_eq_false_iff_not, Bool.and_eq_true, Bool.or_eq_true, Bool.and_eq_false_iff, Bool.or_eq_false_iff, Bool.not_eq_true', Bool.not_eq_false', ne_eq, Decidable.not_not] at hc16
    have hkl : k < ts.length := by omega
    obtain ⟨ob, oo, hA, _, hc, hoA⟩ := ord_at htr hkl
    obtain ⟨⟨i1, _, i3, i4, i5, i6⟩, _⟩ := id hoA
    refine w_skip ?_
    refine t_norm ?_
    refine w_seq ?_
    refine w_block ?_
    refine w_seq ?_
    refine rg_text ?_
    refine x_val rfl rfl rfl (v_indexAddr Tryz.underlying28 sz25 (congrArg (fun A => some (Value.slice A ts.length cp)) hA) rfl (hkl) rfl) ?_
    refine x_val rfl rfl rfl (v_loadN (vs := ts[k].cells) Tryz.underlying25 rfl sz25 rfl (fun j hj => at_ro (.head _) trivial (hc j hj))) ?_
    refine x_alloc rfl rfl rfl zr25 ?_
    intro p7
    refine x_store0 [] rfl rfl rfl rfl sz25 rfl rfl ?_
    refine x_end ?_
    refine t_norm ?_
    refine rg_draw 23 [(true, 0), (true, 1), (true, 2), (true, 3), (true, 4), (true, 5), (true, 6), (true, 7), (true, 8), (true, 9), (true, 10), (true, 11), (true, 12), (true, 13), (true, 14), (true, 15), (true, 16), (true, 17), (true, 18), (true, 19), (true, 20), (true, 21), (false, 22)] (by kernel_rfl) (by kernel_rfl) ?_
    refine x_val rfl rfl rfl (v_move rfl) ?_
    refine x_val rfl rfl rfl (v_fieldAddr (off' := 0) Tryz.underlying25 rfl sz3 (by decide) rfl rfl) ?_
    refine x_val rfl rfl rfl (v_load Tryz.underlying3 rfl rfl (at_ownL (vs := ts[k].cells) (by repeat (first | exact List.Mem.head _ | apply List.Mem.tail)) rfl)) ?_
    refine x_callv rfl rfl rfl Tryz.func10 (by kernel_rfl) rfl (fun w1 hw1 => c_Mod ts[k].id 999999999 w1 i1 (by decide)) ?_
    refine x_val rfl rfl rfl (v_addi (c := 1 + ts[k].id % 999999999) rfl rfl rfl (by omega)) ?_
    refine x_val rfl rfl rfl (v_fieldAddr (off' := 2) Tryz.underlying25 rfl sz23 (by decide) rfl rfl) ?_
    refine x_val rfl rfl rfl (v_fieldAddr (off' := 2) Tryz.underlying23 rfl sz3 (by decide) rfl rfl) ?_
    refine x_val rfl rfl rfl (v_load Tryz.underlying3 rfl rfl (at_ownL (vs := ts[k].cells) (by repeat (first | exact List.Mem.head _ | apply List.Mem.tail)) rfl)) ?_
    refine x_callv rfl rfl rfl Tryz.func10 (by kernel_rfl) rfl (fun w1 hw1 => c_Mod ts[k].src 1000000000 w1 i3 (by decide)) ?_
    refine x_val rfl rfl rfl (v_fieldAddr (off' := 2) Tryz.underlying25 rfl sz23 (by decide) rfl rfl) ?_
    refine x_val rfl rfl rfl (v_fieldAddr (off' := 3) Tryz.underlying23 rfl sz3 (by decide) rfl rfl) ?_
    refine x_val rfl rfl rfl (v_load Tryz.underlying3 rfl rfl (at_ownL (vs := ts[k].cells) (by repeat (first | exact List.Mem.head _ | apply List.Mem.tail)) rfl)) ?_
    refine x_callv rfl rfl rfl Tryz.func10 (by kernel_rfl) rfl (fun w1 hw1 => c_Mod ts[k].num 1000000000 w1 i4 (by decide)) ?_
    refine x_val rfl rfl rfl (v_buildL (places := [(0, 1), (1, 1)]) Tryz.underlying23 zr23 (by kernel_rfl) rfl rfl) ?_
    refine x_val rfl rfl rfl (v_fieldAddr (off' := 4) Tryz.underlying25 rfl sz3 (by decide) rfl rfl) ?_
    refine x_val rfl rfl rfl (v_load Tryz.underlying3 rfl rfl (at_ownL (vs := ts[k].cells) (by repeat (first | exact List.Mem.head _ | apply List.Mem.tail)) rfl)) ?_
    refine x_callv rfl rfl rfl Tryz.func10 (by kernel_rfl) rfl (fun w1 hw1 => c_Mod ts[k].copies 9999 w1 i5 (by decide)) ?_
    refine x_val rfl rfl rfl (v_addi (c := 1 + ts[k].copies % 9999) rfl rfl rfl (by omega)) ?_
    refine x_val rfl rfl rfl (v_fieldAddr (off' := 5) Tryz.underlying25 rfl sz3 (by decide) rfl rfl) ?_
    refine x_val rfl rfl rfl (v_load Tryz.underlying3 rfl rfl (at_ownL (vs := ts[k].cells) (by repeat (first | exact List.Mem.head _ | apply List.Mem.tail)) rfl)) ?_
    refine x_callv rfl rfl rfl Tryz.func10 (by kernel_rfl) rfl (fun w1 hw1 => c_Mod ts[k].price 1000000000 w1 i6 (by decide)) ?_
    refine x_val rfl rfl rfl (v_buildL (places := [(0, 1), (1, 1), (2, 2), (4, 1), (5, 1), (6, 1), (7, 1), (8, 1)]) Tryz.underlying25 zr25 (by kernel_rfl) rfl rfl) ?_
    refine x_buildSliceL (cs := (smallI ts[k]).cells) rfl rfl rfl Tryz.underlying28 sz25 zr25 rfl rfl rfl ?_
    intro p41
    obtain ⟨css, hcl, hrow, hrd⟩ := hT
    rw [hln] at hcl hrow
    refine x_append (e := 25) [(p41, Obj.cells (smallI ts[k]).cells.toArray 25), (p7, Obj.cells ts[k].cells.toArray 25)] (l2 := []) R (len := k) (xs := css.flatten) rfl rfl rfl rfl (by rw [List.append_nil]; rfl) hrow Tryz.underlying28 ap25 rfl rfl (m := 1) (news := (smallI ts[k]).cells) (fun i hi => at_ownL (vs := (smallI ts[k]).cells) (.head _) (by rw [Nat.zero_add]; exact List.getElem?_eq_getElem hi)) rfl (by simp only [maxLen]; omega) (by omega) ?_
    intro R' hR'
    refine x_val rfl rfl rfl (v_assign rfl) ?_
    refine x_end ?_
    refine b_norm ?_
    refine t_norm ?_
    refine rg_text ?_
    refine x_val rfl rfl rfl (v_addi rfl rfl rfl (by first | omega | (dsimp only; omega))) ?_
    refine x_val rfl rfl rfl (v_move rfl) ?_
    refine x_end ?_
    rw [List.append_nil]
    exact l_norm (x := (k, R)) (μ := fun q : Nat × RowS => ts.length - q.1) (k + 1, R') ⟨by dsimp only; omega, by dsimp only; rw [take_snoc hkl, List.map_append]; exact snocN hln hcl hrd hR' ⟨rfl, smallI_okA _⟩⟩ (by simp only; omega) (by repeat (first | exact Sub.nil | refine Sub.cons rfl ?_)) (fun w1 h => h.less (List.sublist_append_right _ _) (fun _ h => h))
  · simp only [hb16, decide_eq_true_eq, decide_eq_false_iff_not, Bool.and_eq_true, Bool.or_eq_true, Bool.and_eq_false_iff, Bool.or_eq_false_iff, Bool.not_eq_true', Bool.not_eq_false', ne_eq, Decidable.not_not] at hc16
    obtain rfl : k = ts.length := by omega
    rw [List.take_length] at hT
    refine w_exit ?_
    refine t_exit ?_
    refine t_exit ?_
    refine b_hit ?_
    refine t_norm ?_
    refine w_seq ?_
    refine rg_text ?_
    refine x_val rfl rfl rfl (v_move rfl) ?_
    refine x_val rfl rfl rfl (v_assign rfl) ?_
    refine x_end ?_
    refine t_norm ?_
    refine w_ret ?_
    refine ret1 rfl rfl (fun w' hm => ⟨_, rfl, hm.base (by simp), ?_⟩)
    unfold cutP
    rw [hts]
    exact hT.any (e := 25) hm (fun q hq => hq) (fun q hq => hm.newer (by simp) hq) (by simp)
theorem ord_sl {v : Value} {e : Ending} {wa wb : World} {xs : List PK.Ord} (h1 : e = .returned v) (h2 : Later wa wb) (h3 : sliceRd tyOrd (fun b => wa.heap.size ≤ b) wb v xs) :
    ∃ v, e = .returned v ∧ Later wa wb ∧ ∃ A1 c1, v = .slice A1 xs.length c1 ∧ sliceRd tyOrd (fun b => wa.heap.size ≤ b) wb (.slice A1 xs.length c1) xs := by
  obtain ⟨A1, c1, rfl, _, _, hh⟩ := id h3
  exact ⟨_, h1, h2, A1, c1, rfl, h3⟩
set_option maxHeartbeats 1000000 in
set_option maxRecDepth 100000 in
theorem d5 {v : Value} {ls : List PK.Ord} {D : Nat → Prop} (w : World) (hls : sliceRd tyOrd D w v ls) (n : Int) (s : ByteArray) (hn : 0 ≤ n ∧ n ≤ 4294967295) (hs : s.size ≤ 1048576) (hL : LD w) :
    Calls Tryz.prog 5 #[v, .int .u32 n, .string s] w fun e w' => e = .returned (.bool (true)) ∧ Later w w' := by
  obtain ⟨A, cp, rfl, hlc, hmx, _⟩ := id hls
  refine enter (vs := [Value.slice A ls.length cp, .int .u32 n, .string s]) Tryz.func5 rfl Tryz.ntmps5 rfl ?_
  refine w_seq ?_
  refine rg_text ?_
  refine x_val rfl rfl rfl (v_assign rfl) ?_
  refine x_end ?_
  refine t_norm ?_
  refine w_seq ?_
  refine rg_text ?_
  refine x_callb rfl rfl rfl Tryz.func9 (by kernel_rfl) rfl (fun w1 hw1 => c_sanity w1 (hL.later (hw1.base (by simp)))) ?_
  intro b19 hb19
  obtain rfl : b19 = true := hb19
  refine x_val rfl rfl rfl (v_assign rfl) ?_
  refine x_end ?_
  refine t_norm ?_
  refine w_seq ?_
  refine rg_text ?_
  refine x_val rfl rfl rfl (v_move rfl) ?_
  refine x_call (R := fun v wa wb => ∃ A1 c1, v = .slice A1 (cutP ls 10).length c1 ∧ sliceRd tyOrd (fun b => wa.heap.size ≤ b) wb (.slice A1 (cutP ls 10).length c1) (cutP ls 10)) rfl rfl rfl Tryz.func15 (by kernel_rfl) rfl (fun w1 hw1 => (c_cut w1 (hls.keep (Kept.later (hw1.base (by simp)))) 10 (by decide)).mono fun e w2 ⟨v, h1, h2, h3⟩ => ord_sl h1 h2 h3) ?_
  intro v21 wa21 wb21 hm21 hl21 hR21
  obtain ⟨A21, c21, rfl, hr21⟩ := hR21
  refine x_val rfl rfl rfl (v_assign rfl) ?_
  refine x_end ?_
  refine t_norm ?_
  refine w_seq ?_
  refine w_seq ?_
  refine rg_text ?_
  refine x_val rfl rfl rfl (v_move rfl) ?_
  refine x_val rfl rfl rfl (v_len_slice Tryz.underlying28 rfl) ?_
  refine x_bool rfl rfl rfl (v_eql rfl rfl) ?_
  intro b24 hb24
  refine x_end ?_
  refine t_norm ?_
  refine w_cond rfl (fun hc24 => ?_) (fun hc24 => ?_)
  · skip
    refine w_seq ?_
    refine rg_text ?_
    refine x_val rfl rfl rfl (v_move rfl) ?_
    refine x_val rfl rfl rfl (v_assign rfl) ?_
    refine x_end ?_
    refine t_norm ?_
    refine w_ret ?_
    refine t_ret ?_
    refine ret1 rfl rfl (fun w' hm => ⟨?_, hm.base (by simp)⟩)
    rfl
  · have hl0 : (cutP ls 10).length ≠ 0 := by rw [hb24] at hc24; simpa using hc24
    have hpay := cutP_pay hl0 (by decide)
    have hwr := cutP_wr ls 10
    have hln : (cutP ls 10).length ≤ 1000 := by have := hpay.2.1; omega
    obtain ⟨t1, t2⟩ := total_le hwr
    have in1 : in64 n := by unfold in64; omega
    have in2 : in64 (totalP (cutP ls 10)) := by unfold in64; omega
    have z44 := itoaS_size in2
    have z45 : ((⟨#[48]⟩ : ByteArray) ++ itoaS (totalP (cutP ls 10))).size ≤ 100000 := by rw [ByteArray.size_append]; show 1 + _ ≤ _; omega
    have e1 := tot_num hpay (n := n) hn.1 (by omega)
    have e2 := tot_bad hpay (zero_bad (itoa_pos _ t1))
    have e3 := tot_bad hpay (x_bad s)
    have e4 := tot_bad hpay long_bad
    refine w_skip ?_
    refine t_norm ?_
    refine w_seq ?_
    refine rg_text ?_
    refine x_val rfl rfl rfl (v_move rfl) ?_
    refine x_callv rfl rfl rfl Tryz.func19 (by kernel_rfl) rfl (fun w1 hw1 => c_Total (ls := (cutP ls 10)) w1 (keep_new hr21 hw1 (by simp) hm21) hwr hln) ?_
    refine x_val rfl rfl rfl (v_assign rfl) ?_
    refine x_end ?_
    refine t_norm ?_
    refine w_seq ?_
    refine rg_text ?_
    refine x_val rfl rfl rfl (v_move rfl) ?_
    refine x_val rfl rfl rfl (v_move rfl) ?_
    refine x_val rfl rfl rfl (v_conv64 Tryz.underlying42 Tryz.underlying3 rfl (by omega)) ?_
    refine x_callv rfl rfl rfl Tryz.func21 (by kernel_rfl) rfl (fun w1 hw1 => c_Dec n w1 hn.1 in1) ?_
    refine x_call (R := fun v wa wb => sliceRd tySeg (fun b => wa.heap.size ≤ b) wb v (withX (cutP ls 10) (itoaS n))) rfl rfl rfl Tryz.func20 (by kernel_rfl) rfl (fun w1 hw1 => (c_With (ls := (cutP ls 10)) w1 (keep_new hr21 hw1 (by simp) hm21) (itoaS n) hwr hln (itoa_ok in1)).mono fun e w2 ⟨v, h1, h2, h3⟩ => ⟨_, h1, h2, h3⟩) ?_
    intro v33 wa33 wb33 hm33 hl33 hR33
    refine x_call (R := fun v wa wb => ∃ q, v = .tuple #[q, .int .i64 (rdI (withX (cutP ls 10) (itoaS n))).2] ∧ sliceRd tyOrd (fun b => wa.heap.size ≤ b) wb q (rdI (withX (cutP ls 10) (itoaS n))).1) rfl rfl rfl Tryz.func18 (by kernel_rfl) rfl (fun w1 hw1 => (c_ReadInvoice (l := withX (cutP ls 10) (itoaS n)) w1 (keep_new hR33 hw1 (by simp) hm33) (withX_big hwr hln (itoa21 in1)) (hL.later (hw1.base (by simp)))).mono fun e w2 ⟨q, h1, h2, h3⟩ => ⟨_, h1, h2, q, rfl, h3⟩) ?_
    intro v34 wa34 wb34 hm34 hl34 hR34
    obtain ⟨v34q, rfl, hr34⟩ := hR34
    refine x_val rfl rfl rfl (v_move rfl) ?_
    refine x_val rfl rfl rfl (v_extract rfl rfl) ?_
    refine x_val rfl rfl rfl (v_extract rfl rfl) ?_
    refine x_val rfl rfl rfl (v_assign rfl) ?_
    refine x_val rfl rfl rfl (v_assign rfl) ?_
    refine x_end ?_
    refine t_norm ?_
    refine w_seq ?_
    refine rg_text ?_
    refine x_val rfl rfl rfl (v_assign rfl) ?_
    refine x_end ?_
    refine t_norm ?_
    refine w_seq ?_
    refine w_seq ?_
    refine rg_text ?_
    refine x_val rfl rfl rfl (v_move rfl) ?_
    refine x_val rfl rfl rfl (v_conv64 Tryz.underlying42 Tryz.underlying3 rfl (by omega)) ?_
    refine x_val rfl rfl rfl (v_move rfl) ?_
    refine x_bool rfl rfl rfl (v_eql rfl rfl) ?_
    intro b40 hb40
    refine x_end ?_
    refine t_norm ?_
    refine w_cond rfl (fun hc40 => ?_) (fun hc40 => ?_)
    · simp only [hb40, decide_eq_true_eq, decide_eq_false_iff_not, Bool.and_eq_true, Bool.or_eq_true, Bool.and_eq_false_iff, Bool.or_eq_false_iff, Bool.not_eq_true', Bool.not_eq_false', ne_eq, Decidable.not_not] at hc40
      refine rg_text ?_
      refine x_val rfl rfl rfl (v_assign rfl) ?_
      refine x_end ?_
      refine t_norm ?_
      refine w_seq ?_
      refine rg_text ?_
      refine x_val rfl rfl rfl (v_move rfl) ?_
      refine x_val rfl rfl rfl (v_move rfl) ?_
      refine x_callv rfl rfl rfl Tryz.func21 (by kernel_rfl) rfl (fun w1 hw1 => c_Dec (totalP (cutP ls 10)) w1 t1 in2) ?_
      refine x_val rfl rfl rfl (v_sadd rfl rfl (by show 1 + _ ≤ _; omega)) ?_
      refine x_call (R := fun v wa wb => sliceRd tySeg (fun b => wa.heap.size ≤ b) wb v (withX (cutP ls 10) ((⟨#[48]⟩ : ByteArray) ++ itoaS (totalP (cutP ls 10))))) rfl rfl rfl Tryz.func20 (by kernel_rfl) rfl (fun w1 hw1 => (c_With (ls := (cutP ls 10)) w1 (keep_new hr21 hw1 (by simp) hm21) ((⟨#[48]⟩ : ByteArray) ++ itoaS (totalP (cutP ls 10))) hwr hln (okS_small z45)).mono fun e w2 ⟨v, h1, h2, h3⟩ => ⟨_, h1, h2, h3⟩) ?_
      intro v46 wa46 wb46 hm46 hl46 hR46
      refine x_call (R := fun v wa wb => ∃ q, v = .tuple #[q, .int .i64 (rdI (withX (cutP ls 10) ((⟨#[48]⟩ : ByteArray) ++ itoaS (totalP (cutP ls 10))))).2] ∧ sliceRd tyOrd (fun b => wa.heap.size ≤ b) wb q (rdI (withX (cutP ls 10) ((⟨#[48]⟩ : ByteArray) ++ itoaS (totalP (cutP ls 10))))).1) rfl rfl rfl Tryz.func18 (by kernel_rfl) rfl (fun w1 hw1 => (c_ReadInvoice (l := withX (cutP ls 10) ((⟨#[48]⟩ : ByteArray) ++ itoaS (totalP (cutP ls 10)))) w1 (keep_new hR46 hw1 (by simp) hm46) (withX_big hwr hln (Nat.le_trans z45 (by decide))) (hL.later (hw1.base (by simp)))).mono fun e w2 ⟨q, h1, h2, h3⟩ => ⟨_, h1, h2, q, rfl, h3⟩) ?_
      intro v47 wa47 wb47 hm47 hl47 hR47
      obtain ⟨v47q, rfl, hr47⟩ := hR47
      refine x_val rfl rfl rfl (v_move rfl) ?_
      refine x_val rfl rfl rfl (v_extract rfl rfl) ?_
      refine x_val rfl rfl rfl (v_extract rfl rfl) ?_
      refine x_val rfl rfl rfl (v_assign rfl) ?_
      refine x_val rfl rfl rfl (v_assign rfl) ?_
      refine x_end ?_
      refine t_norm ?_
      refine w_seq ?_
      refine rg_text ?_
      refine x_val rfl rfl rfl (v_move rfl) ?_
      refine x_val rfl rfl rfl (v_move rfl) ?_
      refine x_val rfl rfl rfl (v_sadd rfl rfl (by show _ + 1 ≤ _; omega)) ?_
      refine x_call (R := fun v wa wb => sliceRd tySeg (fun b => wa.heap.size ≤ b) wb v (withX (cutP ls 10) (s ++ (⟨#[120]⟩ : ByteArray)))) rfl rfl rfl Tryz.func20 (by kernel_rfl) rfl (fun w1 hw1 => (c_With (ls := (cutP ls 10)) w1 (keep_new hr21 hw1 (by simp) hm21) (s ++ (⟨#[120]⟩ : ByteArray)) hwr hln (by unfold okS; rw [ByteArray.size_append]; show _ + 1 ≤ _; omega)).mono fun e w2 ⟨v, h1, h2, h3⟩ => ⟨_, h1, h2, h3⟩) ?_
      intro v54 wa54 wb54 hm54 hl54 hR54
      refine x_call (R := fun v wa wb => ∃ q, v = .tuple #[q, .int .i64 (rdI (withX (cutP ls 10) (s ++ (⟨#[120]⟩ : ByteArray)))).2] ∧ sliceRd tyOrd (fun b => wa.heap.size ≤ b) wb q (rdI (withX (cutP ls 10) (s ++ (⟨#[120]⟩ : ByteArray)))).1) rfl rfl rfl Tryz.func18 (by kernel_rfl) rfl (fun w1 hw1 => (c_ReadInvoice (l := withX (cutP ls 10) (s ++ (⟨#[120]⟩ : ByteArray))) w1 (keep_new hR54 hw1 (by simp) hm54) (withX_big hwr hln (by rw [ByteArray.size_append]; show _ + 1 ≤ _; omega)) (hL.later (hw1.base (by simp)))).mono fun e w2 ⟨q, h1, h2, h3⟩ => ⟨_, h1, h2, q, rfl, h3⟩) ?_
      intro v55 wa55 wb55 hm55 hl55 hR55
      obtain ⟨v55q, rfl, hr55⟩ := hR55
      refine x_val rfl rfl rfl (v_move rfl) ?_
      refine x_val rfl rfl rfl (v_extract rfl rfl) ?_
      refine x_val rfl rfl rfl (v_extract rfl rfl) ?_
      refine x_val rfl rfl rfl (v_assign rfl) ?_
      refine x_val rfl rfl rfl (v_assign rfl) ?_
      refine x_end ?_
      refine t_norm ?_
      refine w_seq ?_
      refine rg_text ?_
      refine x_val rfl rfl rfl (v_move rfl) ?_
      refine x_call (R := fun v wa wb => sliceRd tySeg (fun b => wa.heap.size ≤ b) wb v (withX (cutP ls 10) (⟨#[49, 48, 48, 48, 48, 48, 48, 48, 48, 48, 48, 48, 48, 48, 48, 48, 48, 48, 48]⟩))) rfl rfl rfl Tryz.func20 (by kernel_rfl) rfl (fun w1 hw1 => (c_With (ls := (cutP ls 10)) w1 (keep_new hr21 hw1 (by simp) hm21) (⟨#[49, 48, 48, 48, 48, 48, 48, 48, 48, 48, 48, 48, 48, 48, 48, 48, 48, 48, 48]⟩) hwr hln (okS_small (by decide))).mono fun e w2 ⟨v, h1, h2, h3⟩ => ⟨_, h1, h2, h3⟩) ?_
      intro v60 wa60 wb60 hm60 hl60 hR60
      refine x_call (R := fun v wa wb => ∃ q, v = .tuple #[q, .int .i64 (rdI (withX (cutP ls 10) (⟨#[49, 48, 48, 48, 48, 48, 48, 48, 48, 48, 48, 48, 48, 48, 48, 48, 48, 48, 48]⟩))).2] ∧ sliceRd tyOrd (fun b => wa.heap.size ≤ b) wb q (rdI (withX (cutP ls 10) (⟨#[49, 48, 48, 48, 48, 48, 48, 48, 48, 48, 48, 48, 48, 48, 48, 48, 48, 48, 48]⟩))).1) rfl rfl rfl Tryz.func18 (by kernel_rfl) rfl (fun w1 hw1 => (c_ReadInvoice (l := withX (cutP ls 10) (⟨#[49, 48, 48, 48, 48, 48, 48, 48, 48, 48, 48, 48, 48, 48, 48, 48, 48, 48, 48]⟩)) w1 (keep_new hR60 hw1 (by simp) hm60) (withX_big hwr hln (by decide)) (hL.later (hw1.base (by simp)))).mono fun e w2 ⟨q, h1, h2, h3⟩ => ⟨_, h1, h2, q, rfl, h3⟩) ?_
      intro v61 wa61 wb61 hm61 hl61 hR61
      obtain ⟨v61q, rfl, hr61⟩ := hR61
      refine x_val rfl rfl rfl (v_move rfl) ?_
      refine x_val rfl rfl rfl (v_extract rfl rfl) ?_
      refine x_val rfl rfl rfl (v_extract rfl rfl) ?_
      refine x_val rfl rfl rfl (v_assign rfl) ?_
      refine x_val rfl rfl rfl (v_assign rfl) ?_
      refine x_end ?_
      refine t_norm ?_
      refine w_seq ?_
      refine rg_text ?_
      refine x_val rfl rfl rfl (v_move rfl) ?_
      refine x_val rfl rfl rfl (v_move rfl) ?_
      refine x_if [] rfl rfl rfl rfl rfl (fun hg => by obtain ⟨hg0, _⟩ := hg; (try simp only [List.cons_append, List.nil_append, gvl_nil, gvl_t, gvl_f]); exact v_move rfl) ?_
      refine x_if [] rfl rfl rfl rfl rfl (fun hg => by obtain ⟨hg0, _⟩ := hg; (try simp only [List.cons_append, List.nil_append, gvl_nil, gvl_t, gvl_f]); exact v_move rfl) ?_
      refine x_ifb [] rfl rfl rfl rfl rfl (fun hg => by obtain ⟨hg0, _⟩ := hg; (try simp only [List.cons_append, List.nil_append, gvl_nil, gvl_t, gvl_f]); exact v_eql rfl rfl) ?_
      intro b68 hb68
      refine x_bool rfl rfl rfl (v_and rfl rfl) ?_
      intro b69 hb69
      refine x_val rfl rfl rfl (v_move rfl) ?_
      refine x_if [] rfl rfl rfl rfl rfl (fun hg => by obtain ⟨hg0, _⟩ := hg; subst hg0; (try simp only [List.cons_append, List.nil_append, gvl_nil, gvl_t, gvl_f]); exact v_move rfl) ?_
      refine x_ifb [] rfl rfl rfl rfl rfl (fun hg => by obtain ⟨hg0, _⟩ := hg; subst hg0; (try simp only [List.cons_append, List.nil_append, gvl_nil, gvl_t, gvl_f]); exact v_eql rfl rfl) ?_
      intro b72 hb72
      refine x_bool rfl rfl rfl (v_and rfl rfl) ?_
      intro b73 hb73
      refine x_val rfl rfl rfl (v_move rfl) ?_
      refine x_if [] rfl rfl rfl rfl rfl (fun hg => by obtain ⟨hg0, _⟩ := hg; subst hg0; (try simp only [List.cons_append, List.nil_append, gvl_nil, gvl_t, gvl_f]); exact v_move rfl) ?_
      refine x_ifb [] rfl rfl rfl rfl rfl (fun hg => by obtain ⟨hg0, _⟩ := hg; subst hg0; (try simp only [List.cons_append, List.nil_append, gvl_nil, gvl_t, gvl_f]); exact v_eql rfl rfl) ?_
      intro b76 hb76
      refine x_bool rfl rfl rfl (v_and rfl rfl) ?_
      intro b77 hb77
      refine x_val rfl rfl rfl (v_move rfl) ?_
      refine x_if [] rfl rfl rfl rfl rfl (fun hg => by obtain ⟨hg0, _⟩ := hg; subst hg0; (try simp only [List.cons_append, List.nil_append, gvl_nil, gvl_t, gvl_f]); exact v_move rfl) ?_
      refine x_ifb [] rfl rfl rfl rfl rfl (fun hg => by obtain ⟨hg0, _⟩ := hg; subst hg0; (try simp only [List.cons_append, List.nil_append, gvl_nil, gvl_t, gvl_f]); exact v_eql rfl rfl) ?_
      intro b80 hb80
      refine x_bool rfl rfl rfl (v_and rfl rfl) ?_
      intro b81 hb81
      refine x_val rfl rfl rfl (v_assign rfl) ?_
      refine x_end ?_
      refine t_norm ?_
      refine w_ret ?_
      refine ret1 rfl rfl (fun w' hm => ⟨?_, hm.base (by simp)⟩)
      rw [hb81, hb80, hb77, hb76, hb73, hb72, hb69, hb68, e1, e2, e3, e4]; rw [if_pos hc40]; rfl
    · simp only [hb40, decide_eq_true_eq, decide_eq_false_iff_not, Bool.and_eq_true, Bool.or_eq_true, Bool.and_eq_false_iff, Bool.or_eq_false_iff, Bool.not_eq_true', Bool.not_eq_false', ne_eq, Decidable.not_not] at hc40
      refine w_skip ?_
      refine t_norm ?_
      refine w_seq ?_
      refine rg_text ?_
      refine x_val rfl rfl rfl (v_move rfl) ?_
      refine x_val rfl rfl rfl (v_move rfl) ?_
      refine x_callv rfl rfl rfl Tryz.func21 (by kernel_rfl) rfl (fun w1 hw1 => c_Dec (totalP (cutP ls 10)) w1 t1 in2) ?_
      refine x_val rfl rfl rfl (v_sadd rfl rfl (by show 1 + _ ≤ _; omega)) ?_
      refine x_call (R := fun v wa wb => sliceRd tySeg (fun b => wa.heap.size ≤ b) wb v (withX (cutP ls 10) ((⟨#[48]⟩ : ByteArray) ++ itoaS (totalP (cutP ls 10))))) rfl rfl rfl Tryz.func20 (by kernel_rfl) rfl (fun w1 hw1 => (c_With (ls := (cutP ls 10)) w1 (keep_new hr21 hw1 (by simp) hm21) ((⟨#[48]⟩ : ByteArray) ++ itoaS (totalP (cutP ls 10))) hwr hln (okS_small z45)).mono fun e w2 ⟨v, h1, h2, h3⟩ => ⟨_, h1, h2, h3⟩) ?_
      intro v46 wa46 wb46 hm46 hl46 hR46
      refine x_call (R := fun v wa wb => ∃ q, v = .tuple #[q, .int .i64 (rdI (withX (cutP ls 10) ((⟨#[48]⟩ : ByteArray) ++ itoaS (totalP (cutP ls 10))))).2] ∧ sliceRd tyOrd (fun b => wa.heap.size ≤ b) wb q (rdI (withX (cutP ls 10) ((⟨#[48]⟩ : ByteArray) ++ itoaS (totalP (cutP ls 10))))).1) rfl rfl rfl Tryz.func18 (by kernel_rfl) rfl (fun w1 hw1 => (c_ReadInvoice (l := withX (cutP ls 10) ((⟨#[48]⟩ : ByteArray) ++ itoaS (totalP (cutP ls 10)))) w1 (keep_new hR46 hw1 (by simp) hm46) (withX_big hwr hln (Nat.le_trans z45 (by decide))) (hL.later (hw1.base (by simp)))).mono fun e w2 ⟨q, h1, h2, h3⟩ => ⟨_, h1, h2, q, rfl, h3⟩) ?_
      intro v47 wa47 wb47 hm47 hl47 hR47
      obtain ⟨v47q, rfl, hr47⟩ := hR47
      refine x_val rfl rfl rfl (v_move rfl) ?_
      refine x_val rfl rfl rfl (v_extract rfl rfl) ?_
      refine x_val rfl rfl rfl (v_extract rfl rfl) ?_
      refine x_val rfl rfl rfl (v_assign rfl) ?_
      refine x_val rfl rfl rfl (v_assign rfl) ?_
      refine x_end ?_
      refine t_norm ?_
      refine w_seq ?_
      refine rg_text ?_
      refine x_val rfl rfl rfl (v_move rfl) ?_
      refine x_val rfl rfl rfl (v_move rfl) ?_
      refine x_val rfl rfl rfl (v_sadd rfl rfl (by show _ + 1 ≤ _; omega)) ?_
      refine x_call (R := fun v wa wb => sliceRd tySeg (fun b => wa.heap.size ≤ b) wb v (withX (cutP ls 10) (s ++ (⟨#[120]⟩ : ByteArray)))) rfl rfl rfl Tryz.func20 (by kernel_rfl) rfl (fun w1 hw1 => (c_With (ls := (cutP ls 10)) w1 (keep_new hr21 hw1 (by simp) hm21) (s ++ (⟨#[120]⟩ : ByteArray)) hwr hln (by unfold okS; rw [ByteArray.size_append]; show _ + 1 ≤ _; omega)).mono fun e w2 ⟨v, h1, h2, h3⟩ => ⟨_, h1, h2, h3⟩) ?_
      intro v54 wa54 wb54 hm54 hl54 hR54
      refine x_call (R := fun v wa wb => ∃ q, v = .tuple #[q, .int .i64 (rdI (withX (cutP ls 10) (s ++ (⟨#[120]⟩ : ByteArray)))).2] ∧ sliceRd tyOrd (fun b => wa.heap.size ≤ b) wb q (rdI (withX (cutP ls 10) (s ++ (⟨#[120]⟩ : ByteArray)))).1) rfl rfl rfl Tryz.func18 (by kernel_rfl) rfl (fun w1 hw1 => (c_ReadInvoice (l := withX (cutP ls 10) (s ++ (⟨#[120]⟩ : ByteArray))) w1 (keep_new hR54 hw1 (by simp) hm54) (withX_big hwr hln (by rw [ByteArray.size_append]; show _ + 1 ≤ _; omega)) (hL.later (hw1.base (by simp)))).mono fun e w2 ⟨q, h1, h2, h3⟩ => ⟨_, h1, h2, q, rfl, h3⟩) ?_
      intro v55 wa55 wb55 hm55 hl55 hR55
      obtain ⟨v55q, rfl, hr55⟩ := hR55
      refine x_val rfl rfl rfl (v_move rfl) ?_
      refine x_val rfl rfl rfl (v_extract rfl rfl) ?_
      refine x_val rfl rfl rfl (v_extract rfl rfl) ?_
      refine x_val rfl rfl rfl (v_assign rfl) ?_
      refine x_val rfl rfl rfl (v_assign rfl) ?_
      refine x_end ?_
      refine t_norm ?_
      refine w_seq ?_
      refine rg_text ?_
      refine x_val rfl rfl rfl (v_move rfl) ?_
      refine x_call (R := fun v wa wb => sliceRd tySeg (fun b => wa.heap.size ≤ b) wb v (withX (cutP ls 10) (⟨#[49, 48, 48, 48, 48, 48, 48, 48, 48, 48, 48, 48, 48, 48, 48, 48, 48, 48, 48]⟩))) rfl rfl rfl Tryz.func20 (by kernel_rfl) rfl (fun w1 hw1 => (c_With (ls := (cutP ls 10)) w1 (keep_new hr21 hw1 (by simp) hm21) (⟨#[49, 48, 48, 48, 48, 48, 48, 48, 48, 48, 48, 48, 48, 48, 48, 48, 48, 48, 48]⟩) hwr hln (okS_small (by decide))).mono fun e w2 ⟨v, h1, h2, h3⟩ => ⟨_, h1, h2, h3⟩) ?_
      intro v60 wa60 wb60 hm60 hl60 hR60
      refine x_call (R := fun v wa wb => ∃ q, v = .tuple #[q, .int .i64 (rdI (withX (cutP ls 10) (⟨#[49, 48, 48, 48, 48, 48, 48, 48, 48, 48, 48, 48, 48, 48, 48, 48, 48, 48, 48]⟩))).2] ∧ sliceRd tyOrd (fun b => wa.heap.size ≤ b) wb q (rdI (withX (cutP ls 10) (⟨#[49, 48, 48, 48, 48, 48, 48, 48, 48, 48, 48, 48, 48, 48, 48, 48, 48, 48, 48]⟩))).1) rfl rfl rfl Tryz.func18 (by kernel_rfl) rfl (fun w1 hw1 => (c_ReadInvoice (l := withX (cutP ls 10) (⟨#[49, 48, 48, 48, 48, 48, 48, 48, 48, 48, 48, 48, 48, 48, 48, 48, 48, 48, 48]⟩)) w1 (keep_new hR60 hw1 (by simp) hm60) (withX_big hwr hln (by decide)) (hL.later (hw1.base (by simp)))).mono fun e w2 ⟨q, h1, h2, h3⟩ => ⟨_, h1, h2, q, rfl, h3⟩) ?_
      intro v61 wa61 wb61 hm61 hl61 hR61
      obtain ⟨v61q, rfl, hr61⟩ := hR61
      refine x_val rfl rfl rfl (v_move rfl) ?_
      refine x_val rfl rfl rfl (v_extract rfl rfl) ?_
      refine x_val rfl rfl rfl (v_extract rfl rfl) ?_
      refine x_val rfl rfl rfl (v_assign rfl) ?_
      refine x_val rfl rfl rfl (v_assign rfl) ?_
      refine x_end ?_
      refine t_norm ?_
      refine w_seq ?_
      refine rg_text ?_
      refine x_val rfl rfl rfl (v_move rfl) ?_
      refine x_val rfl rfl rfl (v_move rfl) ?_
      refine x_if [] rfl rfl rfl rfl rfl (fun hg => by obtain ⟨hg0, _⟩ := hg; (try simp only [List.cons_append, List.nil_append, gvl_nil, gvl_t, gvl_f]); exact v_move rfl) ?_
      refine x_if [] rfl rfl rfl rfl rfl (fun hg => by obtain ⟨hg0, _⟩ := hg; (try simp only [List.cons_append, List.nil_append, gvl_nil, gvl_t, gvl_f]); exact v_move rfl) ?_
      refine x_ifb [] rfl rfl rfl rfl rfl (fun hg => by obtain ⟨hg0, _⟩ := hg; (try simp only [List.cons_append, List.nil_append, gvl_nil, gvl_t, gvl_f]); exact v_eql rfl rfl) ?_
      intro b68 hb68
      refine x_bool rfl rfl rfl (v_and rfl rfl) ?_
      intro b69 hb69
      refine x_val rfl rfl rfl (v_move rfl) ?_
      refine x_if [] rfl rfl rfl rfl rfl (fun hg => by obtain ⟨hg0, _⟩ := hg; subst hg0; (try simp only [List.cons_append, List.nil_append, gvl_nil, gvl_t, gvl_f]); exact v_move rfl) ?_
      refine x_ifb [] rfl rfl rfl rfl rfl (fun hg => by obtain ⟨hg0, _⟩ := hg; subst hg0; (try simp only [List.cons_append, List.nil_append, gvl_nil, gvl_t, gvl_f]); exact v_eql rfl rfl) ?_
      intro b72 hb72
      refine x_bool rfl rfl rfl (v_and rfl rfl) ?_
      intro b73 hb73
      refine x_val rfl rfl rfl (v_move rfl) ?_
      refine x_if [] rfl rfl rfl rfl rfl (fun hg => by obtain ⟨hg0, _⟩ := hg; subst hg0; (try simp only [List.cons_append, List.nil_append, gvl_nil, gvl_t, gvl_f]); exact v_move rfl) ?_
      refine x_ifb [] rfl rfl rfl rfl rfl (fun hg => by obtain ⟨hg0, _⟩ := hg; subst hg0; (try simp only [List.cons_append, List.nil_append, gvl_nil, gvl_t, gvl_f]); exact v_eql rfl rfl) ?_
      intro b76 hb76
      refine x_bool rfl rfl rfl (v_and rfl rfl) ?_
      intro b77 hb77
      refine x_val rfl rfl rfl (v_move rfl) ?_
      refine x_if [] rfl rfl rfl rfl rfl (fun hg => by obtain ⟨hg0, _⟩ := hg; subst hg0; (try simp only [List.cons_append, List.nil_append, gvl_nil, gvl_t, gvl_f]); exact v_move rfl) ?_
      refine x_ifb [] rfl rfl rfl rfl rfl (fun hg => by obtain ⟨hg0, _⟩ := hg; subst hg0; (try simp only [List.cons_append, List.nil_append, gvl_nil, gvl_t, gvl_f]); exact v_eql rfl rfl) ?_
      intro b80 hb80
      refine x_bool rfl rfl rfl (v_and rfl rfl) ?_
      intro b81 hb81
      refine x_val rfl rfl rfl (v_assign rfl) ?_
      refine x_end ?_
      refine t_norm ?_
      refine w_ret ?_
      refine ret1 rfl rfl (fun w' hm => ⟨?_, hm.base (by simp)⟩)
      rw [hb81, hb80, hb77, hb76, hb73, hb72, hb69, hb68, e1, e2, e3, e4]; rw [if_neg hc40]; rfl

end Go.Proofs.YtbamklefagghcaaGreatDoor

namespace Go.Proofs.YtbamklefagghcaaGreatDoor
open Go.RowKit Go.PK
set_option linter.unusedVariables false
set_option linter.unusedSimpArgs false

def laidL : List (String × DataW Unit) := [("math/bits.deBruijn32tab", Rows.laid_math_bits_deBruijn32tab), ("math/bits.deBruijn64tab", Rows.laid_math_bits_deBruijn64tab), ("internal/strconv.uint64pow10", Rows.laid_internal_strconv_uint64pow10), ("unicode/utf8.acceptRanges", Rows.laid_unicode_utf8_acceptRanges), ("strconv.ErrRange", Rows.laid_strconv_ErrRange), ("strconv.ErrSyntax", Rows.laid_strconv_ErrSyntax), ("unicode/utf8.first", Rows.laid_unicode_utf8_first)]
theorem noHandle {W : World} (h : laidMetH Tryz.prog laidL W) : laidMet Tryz.prog laidL W := by
  have h1 := (laidMetH_iff.1 h).1
  rwa [show (laidL.filter fun x => x.2.handleName?.isNone) = laidL from by kernel_rfl] at h1
theorem laid_tab {W : World} (h : laidMet Tryz.prog laidL W) : Lib.TabIs Tryz.prog W "internal/strconv.uint64pow10" .u64 Lib.pow10Tab := by
  have h1 := h.filter fun x => x.1 == "internal/strconv.uint64pow10"
  have e : (laidL.filter fun x => x.1 == "internal/strconv.uint64pow10") = [("internal/strconv.uint64pow10", Lib.tabData .u64 Lib.pow10Tab)] := by kernel_rfl
  rw [e] at h1
  exact Lib.tabIs_of_head (g := 3) (t := 160) (e := 146) (n := 20) (by kernel_rfl) (by kernel_rfl) (by kernel_rfl) (by kernel_rfl) (by kernel_rfl) (by kernel_rfl) h1
theorem star : "*" ++ "errors.errorString" = "*errors.errorString" := by decide
theorem row104 (u : TypeId) (h : Tryz.prog.typeName? 3 u = some "*errors.errorString") : u = 165 :=
  typeName_ptr_named (nm := "errors.errorString") (by rw [star]; kernel_rfl) (by kernel_rfl) (by decide) u (by rw [star]; exact h)
theorem laid_syn {W : World} (h : laidMet Tryz.prog laidL W) : ∃ tp p, W.var? Tryz.prog "strconv.ErrSyntax" = some #[.iface tp p] := by
  have h1 := h.filter fun x => x.1 == "strconv.ErrSyntax"
  have e : (laidL.filter fun x => x.1 == "strconv.ErrSyntax") = [("strconv.ErrSyntax", .iface "*errors.errorString" (.ptr (.agg [.lit (.string [105, 110, 118, 97, 108, 105, 100, 32, 115, 121, 110, 116, 97, 120])])))] := by kernel_rfl
  rw [e] at h1
  obtain ⟨a0, s0, hv0, _⟩ := laid_sentinel (g := 0) (ti := 84) (tp := 165) (te := 167) (ts := 9) h1 (by kernel_rfl) (by kernel_rfl) Tryz.underlying84 row104 Tryz.underlying165 Tryz.underlying167 rfl rfl Tryz.underlying9 (by kernel_rfl) (by kernel_rfl)
  exact ⟨_, _, hv0⟩
theorem laid_rng {W : World} (h : laidMet Tryz.prog laidL W) : ∃ tp p, W.var? Tryz.prog "strconv.ErrRange" = some #[.iface tp p] := by
  have h1 := h.filter fun x => x.1 == "strconv.ErrRange"
  have e : (laidL.filter fun x => x.1 == "strconv.ErrRange") = [("strconv.ErrRange", .iface "*errors.errorString" (.ptr (.agg [.lit (.string [118, 97, 108, 117, 101, 32, 111, 117, 116, 32, 111, 102, 32, 114, 97, 110, 103, 101])])))] := by kernel_rfl
  rw [e] at h1
  obtain ⟨a0, s0, hv0, _⟩ := laid_sentinel (g := 1) (ti := 84) (tp := 165) (te := 167) (ts := 9) h1 (by kernel_rfl) (by kernel_rfl) Tryz.underlying84 row104 Tryz.underlying165 Tryz.underlying167 rfl rfl Tryz.underlying9 (by kernel_rfl) (by kernel_rfl)
  exact ⟨_, _, hv0⟩

theorem ld_of {W : World} (h : laidMetH Tryz.prog laidL W) (hS : W.ShapedOpen Tryz.prog) : LD W := ⟨laid_tab (noHandle h), Tryz.laysM146.s1_3 W hS, laid_syn (noHandle h), laid_rng (noHandle h)⟩
theorem laid_met (os : Os) (args : Array Value) : laidMet Tryz.prog laidL ((World.laidAll Tryz.prog os laidL).forCall (fun _ _ => 0) ⟨#[], args, []⟩).memory :=
  laidMet_laidAll args (by kernel_rfl) (by kernel_rfl)
theorem bulk_one {H : Type} (d : DataW H) : 1 ≤ Rows.uptoBulk d := by
  cases d with
  | lit l => cases l <;> simp [Rows.uptoBulk]
  | nil => simp [Rows.uptoBulk]
  | ptr d => simp [Rows.uptoBulk]
  | slice elems spare => simp [Rows.uptoBulk]
  | agg parts => simp [Rows.uptoBulk]
  | iface t d => simp [Rows.uptoBulk]
  | map entries => simp [Rows.uptoBulk]
  | held h => simp [Rows.uptoBulk]
def meas (H : Type) : Meas H := ⟨Rows.uptoBulk, Rows.uptoBulkAll, fun _ => by simp [Rows.uptoBulk], fun _ _ => by simp [Rows.uptoBulk], fun _ => by simp [Rows.uptoBulk], fun _ _ => by simp [Rows.uptoBulkAll], bulk_one⟩

end Go.Proofs.YtbamklefagghcaaGreatDoor

namespace Go.Proofs.YtbamklefagghcaaGreatDoor
open Go.RowKit Go.PK
set_option linter.unusedVariables false
set_option linter.unusedSimpArgs false
set_option maxRecDepth 100000 in
theorem rdr_ord : Rdr Tryz.prog 25 tyOrd :=
  rdr_conv (U := tyOrdU) rfl ord_conv (rdr_struct Tryz.underlying25 (by kernel_rfl) (by decide) (.cons rfl (rdr_i Tryz.underlying3 (by kernel_rfl)) (.cons rfl (rdr_i Tryz.underlying3 (by kernel_rfl)) (.cons rfl (rdr_struct Tryz.underlying23 (by kernel_rfl) (by decide) (.cons rfl (rdr_i Tryz.underlying3 (by kernel_rfl)) (.cons rfl (rdr_i Tryz.underlying3 (by kernel_rfl)) (.nil _)))) (.cons rfl (rdr_i Tryz.underlying3 (by kernel_rfl)) (.cons rfl (rdr_i Tryz.underlying3 (by kernel_rfl)) (.cons rfl (rdr_i Tryz.underlying3 (by kernel_rfl)) (.cons rfl (rdr_i Tryz.underlying3 (by kernel_rfl)) (.cons rfl (rdr_i Tryz.underlying3 (by kernel_rfl)) (.nil _))))))))))
set_option maxRecDepth 100000 in
theorem top_ord {H : Type} {enc : TypeId × Value → H} {W : World} {base b0 : Nat} {sp : Nat → Bool} {held : Bool} {r : Reach} {v : Value} {d : DataW H} {ps : List MemPlace} (hval : Value.okWide Tryz.prog W r b0 25 v) (h : DataW.Trod enc Tryz.prog W base sp held 25 v d ps) : ∃ o : PK.Ord, v = .agg o.cells.toArray ∧ o.okA := by
  obtain ⟨cs, o, rfl, h1, h2⟩ := top_agg Tryz.underlying25 rfl rdr_ord hval h
  refine ⟨o, ?_, h2⟩
  rw [← h1]

end Go.Proofs.YtbamklefagghcaaGreatDoor
